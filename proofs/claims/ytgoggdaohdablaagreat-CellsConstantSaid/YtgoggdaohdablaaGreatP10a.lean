import Derived.Test.YtgoggdaohdablaaGreatP10s
namespace Go.Proofs.YtgoggdaohdablaaGreat
open Go.Eng
set_option maxRecDepth 100000
set_option maxHeartbeats 4000000
set_option linter.unusedVariables false
set_option linter.unusedSimpArgs false

theorem arity_ok (op : Int) : Ct Tryz.prog 29 [.raw (.int .i64 op)] (.raw (.int .i64 (arity op))) := by
  refine ct_intro Tryz.func29 rfl rfl Tryz.ntmps29 rfl rfl ?_
  intro w0 ok0
  refine j_seq ?_
  refine j_region ?_
  refine jg_adr _ rfl _ rfl rfl (op_assign (.base rfl)) ?_
  refine jg_nil ?_
  refine jn_keep [0] [] (.cons rfl .nil) .nil ?_
  refine jn_seq (j_seq (j_seq ?_))
  refine j_region ?_
  refine jg_adr _ rfl _ rfl rfl (op_move (.base rfl)) ?_
  refine jg_nil ?_
  refine jn_keep [3] [] (.cons rfl .nil) .nil ?_
  refine jn_seq (j_block (j_seq (j_seq ?_)))
  refine j_region ?_
  refine jg_adr _ rfl _ rfl rfl (op_eql (.base rfl) (.base rfl)) ?_
  refine jg_adr _ rfl _ rfl rfl (op_assign (.base rfl)) ?_
  refine jg_nil ?_
  refine jn_keep [3, 4] [] (.cons rfl (.cons rfl .nil)) .nil ?_
  refine jn_seq ?_
  refine j_cond rfl (fun h2 => ?_) (fun h2 => ?_)
  · have g2 := h2; try simp at h2
    refine j_skip (jn_seq ?_)
    refine j_cond_t rfl g2 (j_seq ?_)
    refine j_region ?_
    refine jg_adr _ rfl _ rfl rfl (op_assign (.base rfl)) ?_
    refine jg_nil ?_
    refine jn_keep [2] [] (.cons rfl .nil) .nil ?_
    refine jn_seq (j_ret (jr_blk (jr_seq ?_)))
    first | (subst_vars; exact jr_fin1 Tryz.results29 (res_tmp rfl) rfl (ri (by decide))) | exact jr_fin1 Tryz.results29 (res_tmp rfl) rfl (ri (by unfold arity; rw [if_neg (by omega), if_neg (by omega), if_neg (by omega), if_neg (by omega)]))
  · have g2 := h2; try simp at h2
    refine j_seq ?_
    refine j_region ?_
    refine jg_adr _ rfl _ rfl rfl (op_eql (.base rfl) (.base rfl)) ?_
    refine jg_adr _ rfl _ rfl rfl (op_assign (.base rfl)) ?_
    refine jg_nil ?_
    refine jn_keep [3, 4] [] (.cons rfl (.cons rfl .nil)) .nil ?_
    refine jn_seq ?_
    refine j_cond rfl (fun h3 => ?_) (fun h3 => ?_)
    · have g3 := h3; try simp at h3
      refine j_skip (jn_seq ?_)
      refine j_cond_t rfl g3 (j_seq ?_)
      refine j_region ?_
      refine jg_adr _ rfl _ rfl rfl (op_assign (.base rfl)) ?_
      refine jg_nil ?_
      refine jn_keep [2] [] (.cons rfl .nil) .nil ?_
      refine jn_seq (j_ret (jr_blk (jr_seq ?_)))
      first | (subst_vars; exact jr_fin1 Tryz.results29 (res_tmp rfl) rfl (ri (by decide))) | exact jr_fin1 Tryz.results29 (res_tmp rfl) rfl (ri (by unfold arity; rw [if_neg (by omega), if_neg (by omega), if_neg (by omega), if_neg (by omega)]))
    · have g3 := h3; try simp at h3
      refine j_seq ?_
      refine j_region ?_
      refine jg_adr _ rfl _ rfl rfl (op_eql (.base rfl) (.base rfl)) ?_
      refine jg_adr _ rfl _ rfl rfl (op_assign (.base rfl)) ?_
      refine jg_nil ?_
      refine jn_keep [3, 4] [] (.cons rfl (.cons rfl .nil)) .nil ?_
      refine jn_seq ?_
      refine j_cond rfl (fun h4 => ?_) (fun h4 => ?_)
      · have g4 := h4; try simp at h4
        refine j_skip (jn_seq ?_)
        refine j_cond_t rfl g4 (j_seq ?_)
        refine j_region ?_
        refine jg_adr _ rfl _ rfl rfl (op_assign (.base rfl)) ?_
        refine jg_nil ?_
        refine jn_keep [2] [] (.cons rfl .nil) .nil ?_
        refine jn_seq (j_ret (jr_blk (jr_seq ?_)))
        first | (subst_vars; exact jr_fin1 Tryz.results29 (res_tmp rfl) rfl (ri (by decide))) | exact jr_fin1 Tryz.results29 (res_tmp rfl) rfl (ri (by unfold arity; rw [if_neg (by omega), if_neg (by omega), if_neg (by omega), if_neg (by omega)]))
      · have g4 := h4; try simp at h4
        refine j_seq ?_
        refine j_region ?_
        refine jg_adr _ rfl _ rfl rfl (op_eql (.base rfl) (.base rfl)) ?_
        refine jg_adr _ rfl _ rfl rfl (op_assign (.base rfl)) ?_
        refine jg_nil ?_
        refine jn_keep [3, 4] [] (.cons rfl (.cons rfl .nil)) .nil ?_
        refine jn_seq ?_
        refine j_cond rfl (fun h5 => ?_) (fun h5 => ?_)
        · have g5 := h5; try simp at h5
          refine j_skip (jn_seq ?_)
          refine j_cond_t rfl g5 (j_seq ?_)
          refine j_region ?_
          refine jg_adr _ rfl _ rfl rfl (op_assign (.base rfl)) ?_
          refine jg_nil ?_
          refine jn_keep [2] [] (.cons rfl .nil) .nil ?_
          refine jn_seq (j_ret (jr_blk (jr_seq ?_)))
          first | (subst_vars; exact jr_fin1 Tryz.results29 (res_tmp rfl) rfl (ri (by decide))) | exact jr_fin1 Tryz.results29 (res_tmp rfl) rfl (ri (by unfold arity; rw [if_neg (by omega), if_neg (by omega), if_neg (by omega), if_neg (by omega)]))
        · have g5 := h5; try simp at h5
          refine j_seq ?_
          refine j_region ?_
          refine jg_adr _ rfl _ rfl rfl (op_eql (.base rfl) (.base rfl)) ?_
          refine jg_adr _ rfl _ rfl rfl (op_assign (.base rfl)) ?_
          refine jg_nil ?_
          refine jn_keep [3, 4] [] (.cons rfl (.cons rfl .nil)) .nil ?_
          refine jn_seq ?_
          refine j_cond rfl (fun h6 => ?_) (fun h6 => ?_)
          · have g6 := h6; try simp at h6
            refine j_skip (jn_seq ?_)
            refine j_cond_t rfl g6 (j_seq ?_)
            refine j_region ?_
            refine jg_adr _ rfl _ rfl rfl (op_assign (.base rfl)) ?_
            refine jg_nil ?_
            refine jn_keep [2] [] (.cons rfl .nil) .nil ?_
            refine jn_seq (j_ret (jr_blk (jr_seq ?_)))
            first | (subst_vars; exact jr_fin1 Tryz.results29 (res_tmp rfl) rfl (ri (by decide))) | exact jr_fin1 Tryz.results29 (res_tmp rfl) rfl (ri (by unfold arity; rw [if_neg (by omega), if_neg (by omega), if_neg (by omega), if_neg (by omega)]))
          · have g6 := h6; try simp at h6
            refine j_seq ?_
            refine j_region ?_
            refine jg_adr _ rfl _ rfl rfl (op_eql (.base rfl) (.base rfl)) ?_
            refine jg_adr _ rfl _ rfl rfl (op_assign (.base rfl)) ?_
            refine jg_nil ?_
            refine jn_keep [3, 4] [] (.cons rfl (.cons rfl .nil)) .nil ?_
            refine jn_seq ?_
            refine j_cond rfl (fun h7 => ?_) (fun h7 => ?_)
            · have g7 := h7; try simp at h7
              refine j_skip (jn_seq ?_)
              refine j_cond_t rfl g7 (j_seq ?_)
              refine j_region ?_
              refine jg_adr _ rfl _ rfl rfl (op_assign (.base rfl)) ?_
              refine jg_nil ?_
              refine jn_keep [2] [] (.cons rfl .nil) .nil ?_
              refine jn_seq (j_ret (jr_blk (jr_seq ?_)))
              first | (subst_vars; exact jr_fin1 Tryz.results29 (res_tmp rfl) rfl (ri (by decide))) | exact jr_fin1 Tryz.results29 (res_tmp rfl) rfl (ri (by unfold arity; rw [if_neg (by omega), if_neg (by omega), if_neg (by omega), if_neg (by omega)]))
            · have g7 := h7; try simp at h7
              refine j_seq ?_
              refine j_region ?_
              refine jg_adr _ rfl _ rfl rfl (op_eql (.base rfl) (.base rfl)) ?_
              refine jg_adr _ rfl _ rfl rfl (op_assign (.base rfl)) ?_
              refine jg_nil ?_
              refine jn_keep [3, 4] [] (.cons rfl (.cons rfl .nil)) .nil ?_
              refine jn_seq ?_
              refine j_cond rfl (fun h8 => ?_) (fun h8 => ?_)
              · have g8 := h8; try simp at h8
                refine j_skip (jn_seq ?_)
                refine j_cond_t rfl g8 (j_seq ?_)
                refine j_region ?_
                refine jg_adr _ rfl _ rfl rfl (op_assign (.base rfl)) ?_
                refine jg_nil ?_
                refine jn_keep [2] [] (.cons rfl .nil) .nil ?_
                refine jn_seq (j_ret (jr_blk (jr_seq ?_)))
                first | (subst_vars; exact jr_fin1 Tryz.results29 (res_tmp rfl) rfl (ri (by decide))) | exact jr_fin1 Tryz.results29 (res_tmp rfl) rfl (ri (by unfold arity; rw [if_neg (by omega), if_neg (by omega), if_neg (by omega), if_neg (by omega)]))
              · have g8 := h8; try simp at h8
                refine j_seq ?_
                refine j_region ?_
                refine jg_adr _ rfl _ rfl rfl (op_eql (.base rfl) (.base rfl)) ?_
                refine jg_adr _ rfl _ rfl rfl (op_assign (.base rfl)) ?_
                refine jg_nil ?_
                refine jn_keep [3, 4] [] (.cons rfl (.cons rfl .nil)) .nil ?_
                refine jn_seq ?_
                refine j_cond rfl (fun h9 => ?_) (fun h9 => ?_)
                · have g9 := h9; try simp at h9
                  refine j_skip (jn_seq ?_)
                  refine j_cond_t rfl g9 (j_seq ?_)
                  refine j_region ?_
                  refine jg_adr _ rfl _ rfl rfl (op_assign (.base rfl)) ?_
                  refine jg_nil ?_
                  refine jn_keep [2] [] (.cons rfl .nil) .nil ?_
                  refine jn_seq (j_ret (jr_blk (jr_seq ?_)))
                  first | (subst_vars; exact jr_fin1 Tryz.results29 (res_tmp rfl) rfl (ri (by decide))) | exact jr_fin1 Tryz.results29 (res_tmp rfl) rfl (ri (by unfold arity; rw [if_neg (by omega), if_neg (by omega), if_neg (by omega), if_neg (by omega)]))
                · have g9 := h9; try simp at h9
                  refine j_seq ?_
                  refine j_region ?_
                  refine jg_adr _ rfl _ rfl rfl (op_eql (.base rfl) (.base rfl)) ?_
                  refine jg_adr _ rfl _ rfl rfl (op_assign (.base rfl)) ?_
                  refine jg_nil ?_
                  refine jn_keep [3, 4] [] (.cons rfl (.cons rfl .nil)) .nil ?_
                  refine jn_seq ?_
                  refine j_cond rfl (fun h10 => ?_) (fun h10 => ?_)
                  · have g10 := h10; try simp at h10
                    refine j_skip (jn_seq ?_)
                    refine j_cond_t rfl g10 (j_seq ?_)
                    refine j_region ?_
                    refine jg_adr _ rfl _ rfl rfl (op_assign (.base rfl)) ?_
                    refine jg_nil ?_
                    refine jn_keep [2] [] (.cons rfl .nil) .nil ?_
                    refine jn_seq (j_ret (jr_blk (jr_seq ?_)))
                    first | (subst_vars; exact jr_fin1 Tryz.results29 (res_tmp rfl) rfl (ri (by decide))) | exact jr_fin1 Tryz.results29 (res_tmp rfl) rfl (ri (by unfold arity; rw [if_neg (by omega), if_neg (by omega), if_neg (by omega), if_neg (by omega)]))
                  · have g10 := h10; try simp at h10
                    refine j_seq ?_
                    refine j_region ?_
                    refine jg_adr _ rfl _ rfl rfl (op_eql (.base rfl) (.base rfl)) ?_
                    refine jg_adr _ rfl _ rfl rfl (op_assign (.base rfl)) ?_
                    refine jg_nil ?_
                    refine jn_keep [3, 4] [] (.cons rfl (.cons rfl .nil)) .nil ?_
                    refine jn_seq ?_
                    refine j_cond rfl (fun h11 => ?_) (fun h11 => ?_)
                    · have g11 := h11; try simp at h11
                      refine j_skip (jn_seq ?_)
                      refine j_cond_t rfl g11 (j_seq ?_)
                      refine j_region ?_
                      refine jg_adr _ rfl _ rfl rfl (op_assign (.base rfl)) ?_
                      refine jg_nil ?_
                      refine jn_keep [2] [] (.cons rfl .nil) .nil ?_
                      refine jn_seq (j_ret (jr_blk (jr_seq ?_)))
                      first | (subst_vars; exact jr_fin1 Tryz.results29 (res_tmp rfl) rfl (ri (by decide))) | exact jr_fin1 Tryz.results29 (res_tmp rfl) rfl (ri (by unfold arity; rw [if_neg (by omega), if_neg (by omega), if_neg (by omega), if_neg (by omega)]))
                    · have g11 := h11; try simp at h11
                      refine j_seq ?_
                      refine j_region ?_
                      refine jg_adr _ rfl _ rfl rfl (op_eql (.base rfl) (.base rfl)) ?_
                      refine jg_adr _ rfl _ rfl rfl (op_assign (.base rfl)) ?_
                      refine jg_nil ?_
                      refine jn_keep [3, 4] [] (.cons rfl (.cons rfl .nil)) .nil ?_
                      refine jn_seq ?_
                      refine j_cond rfl (fun h12 => ?_) (fun h12 => ?_)
                      · have g12 := h12; try simp at h12
                        refine j_skip (jn_seq ?_)
                        refine j_cond_t rfl g12 (j_seq ?_)
                        refine j_region ?_
                        refine jg_adr _ rfl _ rfl rfl (op_assign (.base rfl)) ?_
                        refine jg_nil ?_
                        refine jn_keep [2] [] (.cons rfl .nil) .nil ?_
                        refine jn_seq (j_ret (jr_blk (jr_seq ?_)))
                        first | (subst_vars; exact jr_fin1 Tryz.results29 (res_tmp rfl) rfl (ri (by decide))) | exact jr_fin1 Tryz.results29 (res_tmp rfl) rfl (ri (by unfold arity; rw [if_neg (by omega), if_neg (by omega), if_neg (by omega), if_neg (by omega)]))
                      · have g12 := h12; try simp at h12
                        refine j_seq ?_
                        refine j_region ?_
                        refine jg_adr _ rfl _ rfl rfl (op_eql (.base rfl) (.base rfl)) ?_
                        refine jg_adr _ rfl _ rfl rfl (op_assign (.base rfl)) ?_
                        refine jg_nil ?_
                        refine jn_keep [3, 4] [] (.cons rfl (.cons rfl .nil)) .nil ?_
                        refine jn_seq ?_
                        refine j_cond rfl (fun h13 => ?_) (fun h13 => ?_)
                        · have g13 := h13; try simp at h13
                          refine j_skip (jn_seq ?_)
                          refine j_cond_t rfl g13 (j_seq ?_)
                          refine j_region ?_
                          refine jg_adr _ rfl _ rfl rfl (op_assign (.base rfl)) ?_
                          refine jg_nil ?_
                          refine jn_keep [2] [] (.cons rfl .nil) .nil ?_
                          refine jn_seq (j_ret (jr_blk (jr_seq ?_)))
                          first | (subst_vars; exact jr_fin1 Tryz.results29 (res_tmp rfl) rfl (ri (by decide))) | exact jr_fin1 Tryz.results29 (res_tmp rfl) rfl (ri (by unfold arity; rw [if_neg (by omega), if_neg (by omega), if_neg (by omega), if_neg (by omega)]))
                        · have g13 := h13; try simp at h13
                          refine j_seq ?_
                          refine j_region ?_
                          refine jg_adr _ rfl _ rfl rfl (op_eql (.base rfl) (.base rfl)) ?_
                          refine jg_adr _ rfl _ rfl rfl (op_assign (.base rfl)) ?_
                          refine jg_nil ?_
                          refine jn_keep [3, 4] [] (.cons rfl (.cons rfl .nil)) .nil ?_
                          refine jn_seq ?_
                          refine j_cond rfl (fun h14 => ?_) (fun h14 => ?_)
                          · have g14 := h14; try simp at h14
                            refine j_skip (jn_seq ?_)
                            refine j_cond_t rfl g14 (j_seq ?_)
                            refine j_region ?_
                            refine jg_adr _ rfl _ rfl rfl (op_assign (.base rfl)) ?_
                            refine jg_nil ?_
                            refine jn_keep [2] [] (.cons rfl .nil) .nil ?_
                            refine jn_seq (j_ret (jr_blk (jr_seq ?_)))
                            first | (subst_vars; exact jr_fin1 Tryz.results29 (res_tmp rfl) rfl (ri (by decide))) | exact jr_fin1 Tryz.results29 (res_tmp rfl) rfl (ri (by unfold arity; rw [if_neg (by omega), if_neg (by omega), if_neg (by omega), if_neg (by omega)]))
                          · have g14 := h14; try simp at h14
                            refine j_region ?_
                            refine jg_adr _ rfl _ rfl rfl (op_eql (.base rfl) (.base rfl)) ?_
                            refine jg_adr _ rfl _ rfl rfl (op_assign (.base rfl)) ?_
                            refine jg_nil ?_
                            refine jn_keep [3, 4] [] (.cons rfl (.cons rfl .nil)) .nil ?_
                            refine jn_seq ?_
                            refine j_cond rfl (fun h15 => ?_) (fun h15 => ?_)
                            · have g15 := h15; try simp at h15
                              refine j_seq ?_
                              refine j_region ?_
                              refine jg_adr _ rfl _ rfl rfl (op_assign (.base rfl)) ?_
                              refine jg_nil ?_
                              refine jn_keep [2] [] (.cons rfl .nil) .nil ?_
                              refine jn_seq (j_ret (jr_blk (jr_seq ?_)))
                              first | (subst_vars; exact jr_fin1 Tryz.results29 (res_tmp rfl) rfl (ri (by decide))) | exact jr_fin1 Tryz.results29 (res_tmp rfl) rfl (ri (by unfold arity; rw [if_neg (by omega), if_neg (by omega), if_neg (by omega), if_neg (by omega)]))
                            · have g15 := h15; try simp at h15
                              refine j_seq (j_seq ?_)
                              refine j_region ?_
                              refine jg_adr _ rfl _ rfl rfl (op_eql (.base rfl) (.base rfl)) ?_
                              refine jg_adr _ rfl _ rfl rfl (op_assign (.base rfl)) ?_
                              refine jg_nil ?_
                              refine jn_keep [3, 19] [] (.cons rfl (.cons rfl .nil)) .nil ?_
                              refine jn_seq ?_
                              refine j_cond rfl (fun h17 => ?_) (fun h17 => ?_)
                              · have g17 := h17; try simp at h17
                                refine j_skip (jn_seq ?_)
                                refine j_cond_t rfl g17 (j_seq ?_)
                                refine j_region ?_
                                refine jg_adr _ rfl _ rfl rfl (op_assign (.base rfl)) ?_
                                refine jg_nil ?_
                                refine jn_keep [2] [] (.cons rfl .nil) .nil ?_
                                refine jn_seq (j_ret (jr_blk (jr_seq ?_)))
                                first | (subst_vars; exact jr_fin1 Tryz.results29 (res_tmp rfl) rfl (ri (by decide))) | exact jr_fin1 Tryz.results29 (res_tmp rfl) rfl (ri (by unfold arity; rw [if_neg (by omega), if_neg (by omega), if_neg (by omega), if_neg (by omega)]))
                              · have g17 := h17; try simp at h17
                                refine j_seq ?_
                                refine j_region ?_
                                refine jg_adr _ rfl _ rfl rfl (op_eql (.base rfl) (.base rfl)) ?_
                                refine jg_adr _ rfl _ rfl rfl (op_assign (.base rfl)) ?_
                                refine jg_nil ?_
                                refine jn_keep [3, 19] [] (.cons rfl (.cons rfl .nil)) .nil ?_
                                refine jn_seq ?_
                                refine j_cond rfl (fun h18 => ?_) (fun h18 => ?_)
                                · have g18 := h18; try simp at h18
                                  refine j_skip (jn_seq ?_)
                                  refine j_cond_t rfl g18 (j_seq ?_)
                                  refine j_region ?_
                                  refine jg_adr _ rfl _ rfl rfl (op_assign (.base rfl)) ?_
                                  refine jg_nil ?_
                                  refine jn_keep [2] [] (.cons rfl .nil) .nil ?_
                                  refine jn_seq (j_ret (jr_blk (jr_seq ?_)))
                                  first | (subst_vars; exact jr_fin1 Tryz.results29 (res_tmp rfl) rfl (ri (by decide))) | exact jr_fin1 Tryz.results29 (res_tmp rfl) rfl (ri (by unfold arity; rw [if_neg (by omega), if_neg (by omega), if_neg (by omega), if_neg (by omega)]))
                                · have g18 := h18; try simp at h18
                                  refine j_seq ?_
                                  refine j_region ?_
                                  refine jg_adr _ rfl _ rfl rfl (op_eql (.base rfl) (.base rfl)) ?_
                                  refine jg_adr _ rfl _ rfl rfl (op_assign (.base rfl)) ?_
                                  refine jg_nil ?_
                                  refine jn_keep [3, 19] [] (.cons rfl (.cons rfl .nil)) .nil ?_
                                  refine jn_seq ?_
                                  refine j_cond rfl (fun h19 => ?_) (fun h19 => ?_)
                                  · have g19 := h19; try simp at h19
                                    refine j_skip (jn_seq ?_)
                                    refine j_cond_t rfl g19 (j_seq ?_)
                                    refine j_region ?_
                                    refine jg_adr _ rfl _ rfl rfl (op_assign (.base rfl)) ?_
                                    refine jg_nil ?_
                                    refine jn_keep [2] [] (.cons rfl .nil) .nil ?_
                                    refine jn_seq (j_ret (jr_blk (jr_seq ?_)))
                                    first | (subst_vars; exact jr_fin1 Tryz.results29 (res_tmp rfl) rfl (ri (by decide))) | exact jr_fin1 Tryz.results29 (res_tmp rfl) rfl (ri (by unfold arity; rw [if_neg (by omega), if_neg (by omega), if_neg (by omega), if_neg (by omega)]))
                                  · have g19 := h19; try simp at h19
                                    refine j_seq ?_
                                    refine j_region ?_
                                    refine jg_adr _ rfl _ rfl rfl (op_eql (.base rfl) (.base rfl)) ?_
                                    refine jg_adr _ rfl _ rfl rfl (op_assign (.base rfl)) ?_
                                    refine jg_nil ?_
                                    refine jn_keep [3, 19] [] (.cons rfl (.cons rfl .nil)) .nil ?_
                                    refine jn_seq ?_
                                    refine j_cond rfl (fun h20 => ?_) (fun h20 => ?_)
                                    · have g20 := h20; try simp at h20
                                      refine j_skip (jn_seq ?_)
                                      refine j_cond_t rfl g20 (j_seq ?_)
                                      refine j_region ?_
                                      refine jg_adr _ rfl _ rfl rfl (op_assign (.base rfl)) ?_
                                      refine jg_nil ?_
                                      refine jn_keep [2] [] (.cons rfl .nil) .nil ?_
                                      refine jn_seq (j_ret (jr_blk (jr_seq ?_)))
                                      first | (subst_vars; exact jr_fin1 Tryz.results29 (res_tmp rfl) rfl (ri (by decide))) | exact jr_fin1 Tryz.results29 (res_tmp rfl) rfl (ri (by unfold arity; rw [if_neg (by omega), if_neg (by omega), if_neg (by omega), if_neg (by omega)]))
                                    · have g20 := h20; try simp at h20
                                      refine j_seq ?_
                                      refine j_region ?_
                                      refine jg_adr _ rfl _ rfl rfl (op_eql (.base rfl) (.base rfl)) ?_
                                      refine jg_adr _ rfl _ rfl rfl (op_assign (.base rfl)) ?_
                                      refine jg_nil ?_
                                      refine jn_keep [3, 19] [] (.cons rfl (.cons rfl .nil)) .nil ?_
                                      refine jn_seq ?_
                                      refine j_cond rfl (fun h21 => ?_) (fun h21 => ?_)
                                      · have g21 := h21; try simp at h21
                                        refine j_skip (jn_seq ?_)
                                        refine j_cond_t rfl g21 (j_seq ?_)
                                        refine j_region ?_
                                        refine jg_adr _ rfl _ rfl rfl (op_assign (.base rfl)) ?_
                                        refine jg_nil ?_
                                        refine jn_keep [2] [] (.cons rfl .nil) .nil ?_
                                        refine jn_seq (j_ret (jr_blk (jr_seq ?_)))
                                        first | (subst_vars; exact jr_fin1 Tryz.results29 (res_tmp rfl) rfl (ri (by decide))) | exact jr_fin1 Tryz.results29 (res_tmp rfl) rfl (ri (by unfold arity; rw [if_neg (by omega), if_neg (by omega), if_neg (by omega), if_neg (by omega)]))
                                      · have g21 := h21; try simp at h21
                                        refine j_region ?_
                                        refine jg_adr _ rfl _ rfl rfl (op_eql (.base rfl) (.base rfl)) ?_
                                        refine jg_adr _ rfl _ rfl rfl (op_assign (.base rfl)) ?_
                                        refine jg_nil ?_
                                        refine jn_keep [3, 19] [] (.cons rfl (.cons rfl .nil)) .nil ?_
                                        refine jn_seq ?_
                                        refine j_cond rfl (fun h22 => ?_) (fun h22 => ?_)
                                        · have g22 := h22; try simp at h22
                                          refine j_seq ?_
                                          refine j_region ?_
                                          refine jg_adr _ rfl _ rfl rfl (op_assign (.base rfl)) ?_
                                          refine jg_nil ?_
                                          refine jn_keep [2] [] (.cons rfl .nil) .nil ?_
                                          refine jn_seq (j_ret (jr_blk (jr_seq ?_)))
                                          first | (subst_vars; exact jr_fin1 Tryz.results29 (res_tmp rfl) rfl (ri (by decide))) | exact jr_fin1 Tryz.results29 (res_tmp rfl) rfl (ri (by unfold arity; rw [if_neg (by omega), if_neg (by omega), if_neg (by omega), if_neg (by omega)]))
                                        · have g22 := h22; try simp at h22
                                          refine j_seq (j_seq ?_)
                                          refine j_region ?_
                                          refine jg_adr _ rfl _ rfl rfl (op_eql (.base rfl) (.base rfl)) ?_
                                          refine jg_adr _ rfl _ rfl rfl (op_assign (.base rfl)) ?_
                                          refine jg_nil ?_
                                          refine jn_keep [3, 26] [] (.cons rfl (.cons rfl .nil)) .nil ?_
                                          refine jn_seq ?_
                                          refine j_cond rfl (fun h24 => ?_) (fun h24 => ?_)
                                          · have g24 := h24; try simp at h24
                                            refine j_skip (jn_seq ?_)
                                            refine j_cond_t rfl g24 (j_seq ?_)
                                            refine j_region ?_
                                            refine jg_adr _ rfl _ rfl rfl (op_assign (.base rfl)) ?_
                                            refine jg_nil ?_
                                            refine jn_keep [2] [] (.cons rfl .nil) .nil ?_
                                            refine jn_seq (j_ret (jr_blk (jr_seq ?_)))
                                            first | (subst_vars; exact jr_fin1 Tryz.results29 (res_tmp rfl) rfl (ri (by decide))) | exact jr_fin1 Tryz.results29 (res_tmp rfl) rfl (ri (by unfold arity; rw [if_neg (by omega), if_neg (by omega), if_neg (by omega), if_neg (by omega)]))
                                          · have g24 := h24; try simp at h24
                                            refine j_seq ?_
                                            refine j_region ?_
                                            refine jg_adr _ rfl _ rfl rfl (op_eql (.base rfl) (.base rfl)) ?_
                                            refine jg_adr _ rfl _ rfl rfl (op_assign (.base rfl)) ?_
                                            refine jg_nil ?_
                                            refine jn_keep [3, 26] [] (.cons rfl (.cons rfl .nil)) .nil ?_
                                            refine jn_seq ?_
                                            refine j_cond rfl (fun h25 => ?_) (fun h25 => ?_)
                                            · have g25 := h25; try simp at h25
                                              refine j_skip (jn_seq ?_)
                                              refine j_cond_t rfl g25 (j_seq ?_)
                                              refine j_region ?_
                                              refine jg_adr _ rfl _ rfl rfl (op_assign (.base rfl)) ?_
                                              refine jg_nil ?_
                                              refine jn_keep [2] [] (.cons rfl .nil) .nil ?_
                                              refine jn_seq (j_ret (jr_blk (jr_seq ?_)))
                                              first | (subst_vars; exact jr_fin1 Tryz.results29 (res_tmp rfl) rfl (ri (by decide))) | exact jr_fin1 Tryz.results29 (res_tmp rfl) rfl (ri (by unfold arity; rw [if_neg (by omega), if_neg (by omega), if_neg (by omega), if_neg (by omega)]))
                                            · have g25 := h25; try simp at h25
                                              refine j_seq ?_
                                              refine j_region ?_
                                              refine jg_adr _ rfl _ rfl rfl (op_eql (.base rfl) (.base rfl)) ?_
                                              refine jg_adr _ rfl _ rfl rfl (op_assign (.base rfl)) ?_
                                              refine jg_nil ?_
                                              refine jn_keep [3, 26] [] (.cons rfl (.cons rfl .nil)) .nil ?_
                                              refine jn_seq ?_
                                              refine j_cond rfl (fun h26 => ?_) (fun h26 => ?_)
                                              · have g26 := h26; try simp at h26
                                                refine j_skip (jn_seq ?_)
                                                refine j_cond_t rfl g26 (j_seq ?_)
                                                refine j_region ?_
                                                refine jg_adr _ rfl _ rfl rfl (op_assign (.base rfl)) ?_
                                                refine jg_nil ?_
                                                refine jn_keep [2] [] (.cons rfl .nil) .nil ?_
                                                refine jn_seq (j_ret (jr_blk (jr_seq ?_)))
                                                first | (subst_vars; exact jr_fin1 Tryz.results29 (res_tmp rfl) rfl (ri (by decide))) | exact jr_fin1 Tryz.results29 (res_tmp rfl) rfl (ri (by unfold arity; rw [if_neg (by omega), if_neg (by omega), if_neg (by omega), if_neg (by omega)]))
                                              · have g26 := h26; try simp at h26
                                                refine j_seq ?_
                                                refine j_region ?_
                                                refine jg_adr _ rfl _ rfl rfl (op_eql (.base rfl) (.base rfl)) ?_
                                                refine jg_adr _ rfl _ rfl rfl (op_assign (.base rfl)) ?_
                                                refine jg_nil ?_
                                                refine jn_keep [3, 26] [] (.cons rfl (.cons rfl .nil)) .nil ?_
                                                refine jn_seq ?_
                                                refine j_cond rfl (fun h27 => ?_) (fun h27 => ?_)
                                                · have g27 := h27; try simp at h27
                                                  refine j_skip (jn_seq ?_)
                                                  refine j_cond_t rfl g27 (j_seq ?_)
                                                  refine j_region ?_
                                                  refine jg_adr _ rfl _ rfl rfl (op_assign (.base rfl)) ?_
                                                  refine jg_nil ?_
                                                  refine jn_keep [2] [] (.cons rfl .nil) .nil ?_
                                                  refine jn_seq (j_ret (jr_blk (jr_seq ?_)))
                                                  first | (subst_vars; exact jr_fin1 Tryz.results29 (res_tmp rfl) rfl (ri (by decide))) | exact jr_fin1 Tryz.results29 (res_tmp rfl) rfl (ri (by unfold arity; rw [if_neg (by omega), if_neg (by omega), if_neg (by omega), if_neg (by omega)]))
                                                · have g27 := h27; try simp at h27
                                                  refine j_seq ?_
                                                  refine j_region ?_
                                                  refine jg_adr _ rfl _ rfl rfl (op_eql (.base rfl) (.base rfl)) ?_
                                                  refine jg_adr _ rfl _ rfl rfl (op_assign (.base rfl)) ?_
                                                  refine jg_nil ?_
                                                  refine jn_keep [3, 26] [] (.cons rfl (.cons rfl .nil)) .nil ?_
                                                  refine jn_seq ?_
                                                  refine j_cond rfl (fun h28 => ?_) (fun h28 => ?_)
                                                  · have g28 := h28; try simp at h28
                                                    refine j_skip (jn_seq ?_)
                                                    refine j_cond_t rfl g28 (j_seq ?_)
                                                    refine j_region ?_
                                                    refine jg_adr _ rfl _ rfl rfl (op_assign (.base rfl)) ?_
                                                    refine jg_nil ?_
                                                    refine jn_keep [2] [] (.cons rfl .nil) .nil ?_
                                                    refine jn_seq (j_ret (jr_blk (jr_seq ?_)))
                                                    first | (subst_vars; exact jr_fin1 Tryz.results29 (res_tmp rfl) rfl (ri (by decide))) | exact jr_fin1 Tryz.results29 (res_tmp rfl) rfl (ri (by unfold arity; rw [if_neg (by omega), if_neg (by omega), if_neg (by omega), if_neg (by omega)]))
                                                  · have g28 := h28; try simp at h28
                                                    refine j_seq ?_
                                                    refine j_region ?_
                                                    refine jg_adr _ rfl _ rfl rfl (op_eql (.base rfl) (.base rfl)) ?_
                                                    refine jg_adr _ rfl _ rfl rfl (op_assign (.base rfl)) ?_
                                                    refine jg_nil ?_
                                                    refine jn_keep [3, 26] [] (.cons rfl (.cons rfl .nil)) .nil ?_
                                                    refine jn_seq ?_
                                                    refine j_cond rfl (fun h29 => ?_) (fun h29 => ?_)
                                                    · have g29 := h29; try simp at h29
                                                      refine j_skip (jn_seq ?_)
                                                      refine j_cond_t rfl g29 (j_seq ?_)
                                                      refine j_region ?_
                                                      refine jg_adr _ rfl _ rfl rfl (op_assign (.base rfl)) ?_
                                                      refine jg_nil ?_
                                                      refine jn_keep [2] [] (.cons rfl .nil) .nil ?_
                                                      refine jn_seq (j_ret (jr_blk (jr_seq ?_)))
                                                      first | (subst_vars; exact jr_fin1 Tryz.results29 (res_tmp rfl) rfl (ri (by decide))) | exact jr_fin1 Tryz.results29 (res_tmp rfl) rfl (ri (by unfold arity; rw [if_neg (by omega), if_neg (by omega), if_neg (by omega), if_neg (by omega)]))
                                                    · have g29 := h29; try simp at h29
                                                      refine j_seq ?_
                                                      refine j_region ?_
                                                      refine jg_adr _ rfl _ rfl rfl (op_eql (.base rfl) (.base rfl)) ?_
                                                      refine jg_adr _ rfl _ rfl rfl (op_assign (.base rfl)) ?_
                                                      refine jg_nil ?_
                                                      refine jn_keep [3, 26] [] (.cons rfl (.cons rfl .nil)) .nil ?_
                                                      refine jn_seq ?_
                                                      refine j_cond rfl (fun h30 => ?_) (fun h30 => ?_)
                                                      · have g30 := h30; try simp at h30
                                                        refine j_skip (jn_seq ?_)
                                                        refine j_cond_t rfl g30 (j_seq ?_)
                                                        refine j_region ?_
                                                        refine jg_adr _ rfl _ rfl rfl (op_assign (.base rfl)) ?_
                                                        refine jg_nil ?_
                                                        refine jn_keep [2] [] (.cons rfl .nil) .nil ?_
                                                        refine jn_seq (j_ret (jr_blk (jr_seq ?_)))
                                                        first | (subst_vars; exact jr_fin1 Tryz.results29 (res_tmp rfl) rfl (ri (by decide))) | exact jr_fin1 Tryz.results29 (res_tmp rfl) rfl (ri (by unfold arity; rw [if_neg (by omega), if_neg (by omega), if_neg (by omega), if_neg (by omega)]))
                                                      · have g30 := h30; try simp at h30
                                                        refine j_seq ?_
                                                        refine j_region ?_
                                                        refine jg_adr _ rfl _ rfl rfl (op_eql (.base rfl) (.base rfl)) ?_
                                                        refine jg_adr _ rfl _ rfl rfl (op_assign (.base rfl)) ?_
                                                        refine jg_nil ?_
                                                        refine jn_keep [3, 26] [] (.cons rfl (.cons rfl .nil)) .nil ?_
                                                        refine jn_seq ?_
                                                        refine j_cond rfl (fun h31 => ?_) (fun h31 => ?_)
                                                        · have g31 := h31; try simp at h31
                                                          refine j_skip (jn_seq ?_)
                                                          refine j_cond_t rfl g31 (j_seq ?_)
                                                          refine j_region ?_
                                                          refine jg_adr _ rfl _ rfl rfl (op_assign (.base rfl)) ?_
                                                          refine jg_nil ?_
                                                          refine jn_keep [2] [] (.cons rfl .nil) .nil ?_
                                                          refine jn_seq (j_ret (jr_blk (jr_seq ?_)))
                                                          first | (subst_vars; exact jr_fin1 Tryz.results29 (res_tmp rfl) rfl (ri (by decide))) | exact jr_fin1 Tryz.results29 (res_tmp rfl) rfl (ri (by unfold arity; rw [if_neg (by omega), if_neg (by omega), if_neg (by omega), if_neg (by omega)]))
                                                        · have g31 := h31; try simp at h31
                                                          refine j_seq ?_
                                                          refine j_region ?_
                                                          refine jg_adr _ rfl _ rfl rfl (op_eql (.base rfl) (.base rfl)) ?_
                                                          refine jg_adr _ rfl _ rfl rfl (op_assign (.base rfl)) ?_
                                                          refine jg_nil ?_
                                                          refine jn_keep [3, 26] [] (.cons rfl (.cons rfl .nil)) .nil ?_
                                                          refine jn_seq ?_
                                                          refine j_cond rfl (fun h32 => ?_) (fun h32 => ?_)
                                                          · have g32 := h32; try simp at h32
                                                            refine j_skip (jn_seq ?_)
                                                            refine j_cond_t rfl g32 (j_seq ?_)
                                                            refine j_region ?_
                                                            refine jg_adr _ rfl _ rfl rfl (op_assign (.base rfl)) ?_
                                                            refine jg_nil ?_
                                                            refine jn_keep [2] [] (.cons rfl .nil) .nil ?_
                                                            refine jn_seq (j_ret (jr_blk (jr_seq ?_)))
                                                            first | (subst_vars; exact jr_fin1 Tryz.results29 (res_tmp rfl) rfl (ri (by decide))) | exact jr_fin1 Tryz.results29 (res_tmp rfl) rfl (ri (by unfold arity; rw [if_neg (by omega), if_neg (by omega), if_neg (by omega), if_neg (by omega)]))
                                                          · have g32 := h32; try simp at h32
                                                            refine j_seq ?_
                                                            refine j_region ?_
                                                            refine jg_adr _ rfl _ rfl rfl (op_eql (.base rfl) (.base rfl)) ?_
                                                            refine jg_adr _ rfl _ rfl rfl (op_assign (.base rfl)) ?_
                                                            refine jg_nil ?_
                                                            refine jn_keep [3, 26] [] (.cons rfl (.cons rfl .nil)) .nil ?_
                                                            refine jn_seq ?_
                                                            refine j_cond rfl (fun h33 => ?_) (fun h33 => ?_)
                                                            · have g33 := h33; try simp at h33
                                                              refine j_skip (jn_seq ?_)
                                                              refine j_cond_t rfl g33 (j_seq ?_)
                                                              refine j_region ?_
                                                              refine jg_adr _ rfl _ rfl rfl (op_assign (.base rfl)) ?_
                                                              refine jg_nil ?_
                                                              refine jn_keep [2] [] (.cons rfl .nil) .nil ?_
                                                              refine jn_seq (j_ret (jr_blk (jr_seq ?_)))
                                                              first | (subst_vars; exact jr_fin1 Tryz.results29 (res_tmp rfl) rfl (ri (by decide))) | exact jr_fin1 Tryz.results29 (res_tmp rfl) rfl (ri (by unfold arity; rw [if_neg (by omega), if_neg (by omega), if_neg (by omega), if_neg (by omega)]))
                                                            · have g33 := h33; try simp at h33
                                                              refine j_seq ?_
                                                              refine j_region ?_
                                                              refine jg_adr _ rfl _ rfl rfl (op_eql (.base rfl) (.base rfl)) ?_
                                                              refine jg_adr _ rfl _ rfl rfl (op_assign (.base rfl)) ?_
                                                              refine jg_nil ?_
                                                              refine jn_keep [3, 26] [] (.cons rfl (.cons rfl .nil)) .nil ?_
                                                              refine jn_seq ?_
                                                              refine j_cond rfl (fun h34 => ?_) (fun h34 => ?_)
                                                              · have g34 := h34; try simp at h34
                                                                refine j_skip (jn_seq ?_)
                                                                refine j_cond_t rfl g34 (j_seq ?_)
                                                                refine j_region ?_
                                                                refine jg_adr _ rfl _ rfl rfl (op_assign (.base rfl)) ?_
                                                                refine jg_nil ?_
                                                                refine jn_keep [2] [] (.cons rfl .nil) .nil ?_
                                                                refine jn_seq (j_ret (jr_blk (jr_seq ?_)))
                                                                first | (subst_vars; exact jr_fin1 Tryz.results29 (res_tmp rfl) rfl (ri (by decide))) | exact jr_fin1 Tryz.results29 (res_tmp rfl) rfl (ri (by unfold arity; rw [if_neg (by omega), if_neg (by omega), if_neg (by omega), if_neg (by omega)]))
                                                              · have g34 := h34; try simp at h34
                                                                refine j_seq ?_
                                                                refine j_region ?_
                                                                refine jg_adr _ rfl _ rfl rfl (op_eql (.base rfl) (.base rfl)) ?_
                                                                refine jg_adr _ rfl _ rfl rfl (op_assign (.base rfl)) ?_
                                                                refine jg_nil ?_
                                                                refine jn_keep [3, 26] [] (.cons rfl (.cons rfl .nil)) .nil ?_
                                                                refine jn_seq ?_
                                                                refine j_cond rfl (fun h35 => ?_) (fun h35 => ?_)
                                                                · have g35 := h35; try simp at h35
                                                                  refine j_skip (jn_seq ?_)
                                                                  refine j_cond_t rfl g35 (j_seq ?_)
                                                                  refine j_region ?_
                                                                  refine jg_adr _ rfl _ rfl rfl (op_assign (.base rfl)) ?_
                                                                  refine jg_nil ?_
                                                                  refine jn_keep [2] [] (.cons rfl .nil) .nil ?_
                                                                  refine jn_seq (j_ret (jr_blk (jr_seq ?_)))
                                                                  first | (subst_vars; exact jr_fin1 Tryz.results29 (res_tmp rfl) rfl (ri (by decide))) | exact jr_fin1 Tryz.results29 (res_tmp rfl) rfl (ri (by unfold arity; rw [if_neg (by omega), if_neg (by omega), if_neg (by omega), if_neg (by omega)]))
                                                                · have g35 := h35; try simp at h35
                                                                  refine j_seq ?_
                                                                  refine j_region ?_
                                                                  refine jg_adr _ rfl _ rfl rfl (op_eql (.base rfl) (.base rfl)) ?_
                                                                  refine jg_adr _ rfl _ rfl rfl (op_assign (.base rfl)) ?_
                                                                  refine jg_nil ?_
                                                                  refine jn_keep [3, 26] [] (.cons rfl (.cons rfl .nil)) .nil ?_
                                                                  refine jn_seq ?_
                                                                  refine j_cond rfl (fun h36 => ?_) (fun h36 => ?_)
                                                                  · have g36 := h36; try simp at h36
                                                                    refine j_skip (jn_seq ?_)
                                                                    refine j_cond_t rfl g36 (j_seq ?_)
                                                                    refine j_region ?_
                                                                    refine jg_adr _ rfl _ rfl rfl (op_assign (.base rfl)) ?_
                                                                    refine jg_nil ?_
                                                                    refine jn_keep [2] [] (.cons rfl .nil) .nil ?_
                                                                    refine jn_seq (j_ret (jr_blk (jr_seq ?_)))
                                                                    first | (subst_vars; exact jr_fin1 Tryz.results29 (res_tmp rfl) rfl (ri (by decide))) | exact jr_fin1 Tryz.results29 (res_tmp rfl) rfl (ri (by unfold arity; rw [if_neg (by omega), if_neg (by omega), if_neg (by omega), if_neg (by omega)]))
                                                                  · have g36 := h36; try simp at h36
                                                                    refine j_seq ?_
                                                                    refine j_region ?_
                                                                    refine jg_adr _ rfl _ rfl rfl (op_eql (.base rfl) (.base rfl)) ?_
                                                                    refine jg_adr _ rfl _ rfl rfl (op_assign (.base rfl)) ?_
                                                                    refine jg_nil ?_
                                                                    refine jn_keep [3, 26] [] (.cons rfl (.cons rfl .nil)) .nil ?_
                                                                    refine jn_seq ?_
                                                                    refine j_cond rfl (fun h37 => ?_) (fun h37 => ?_)
                                                                    · have g37 := h37; try simp at h37
                                                                      refine j_skip (jn_seq ?_)
                                                                      refine j_cond_t rfl g37 (j_seq ?_)
                                                                      refine j_region ?_
                                                                      refine jg_adr _ rfl _ rfl rfl (op_assign (.base rfl)) ?_
                                                                      refine jg_nil ?_
                                                                      refine jn_keep [2] [] (.cons rfl .nil) .nil ?_
                                                                      refine jn_seq (j_ret (jr_blk (jr_seq ?_)))
                                                                      first | (subst_vars; exact jr_fin1 Tryz.results29 (res_tmp rfl) rfl (ri (by decide))) | exact jr_fin1 Tryz.results29 (res_tmp rfl) rfl (ri (by unfold arity; rw [if_neg (by omega), if_neg (by omega), if_neg (by omega), if_neg (by omega)]))
                                                                    · have g37 := h37; try simp at h37
                                                                      refine j_seq ?_
                                                                      refine j_region ?_
                                                                      refine jg_adr _ rfl _ rfl rfl (op_eql (.base rfl) (.base rfl)) ?_
                                                                      refine jg_adr _ rfl _ rfl rfl (op_assign (.base rfl)) ?_
                                                                      refine jg_nil ?_
                                                                      refine jn_keep [3, 26] [] (.cons rfl (.cons rfl .nil)) .nil ?_
                                                                      refine jn_seq ?_
                                                                      refine j_cond rfl (fun h38 => ?_) (fun h38 => ?_)
                                                                      · have g38 := h38; try simp at h38
                                                                        refine j_skip (jn_seq ?_)
                                                                        refine j_cond_t rfl g38 (j_seq ?_)
                                                                        refine j_region ?_
                                                                        refine jg_adr _ rfl _ rfl rfl (op_assign (.base rfl)) ?_
                                                                        refine jg_nil ?_
                                                                        refine jn_keep [2] [] (.cons rfl .nil) .nil ?_
                                                                        refine jn_seq (j_ret (jr_blk (jr_seq ?_)))
                                                                        first | (subst_vars; exact jr_fin1 Tryz.results29 (res_tmp rfl) rfl (ri (by decide))) | exact jr_fin1 Tryz.results29 (res_tmp rfl) rfl (ri (by unfold arity; rw [if_neg (by omega), if_neg (by omega), if_neg (by omega), if_neg (by omega)]))
                                                                      · have g38 := h38; try simp at h38
                                                                        refine j_seq ?_
                                                                        refine j_region ?_
                                                                        refine jg_adr _ rfl _ rfl rfl (op_eql (.base rfl) (.base rfl)) ?_
                                                                        refine jg_adr _ rfl _ rfl rfl (op_assign (.base rfl)) ?_
                                                                        refine jg_nil ?_
                                                                        refine jn_keep [3, 26] [] (.cons rfl (.cons rfl .nil)) .nil ?_
                                                                        refine jn_seq ?_
                                                                        refine j_cond rfl (fun h39 => ?_) (fun h39 => ?_)
                                                                        · have g39 := h39; try simp at h39
                                                                          refine j_skip (jn_seq ?_)
                                                                          refine j_cond_t rfl g39 (j_seq ?_)
                                                                          refine j_region ?_
                                                                          refine jg_adr _ rfl _ rfl rfl (op_assign (.base rfl)) ?_
                                                                          refine jg_nil ?_
                                                                          refine jn_keep [2] [] (.cons rfl .nil) .nil ?_
                                                                          refine jn_seq (j_ret (jr_blk (jr_seq ?_)))
                                                                          first | (subst_vars; exact jr_fin1 Tryz.results29 (res_tmp rfl) rfl (ri (by decide))) | exact jr_fin1 Tryz.results29 (res_tmp rfl) rfl (ri (by unfold arity; rw [if_neg (by omega), if_neg (by omega), if_neg (by omega), if_neg (by omega)]))
                                                                        · have g39 := h39; try simp at h39
                                                                          refine j_seq ?_
                                                                          refine j_region ?_
                                                                          refine jg_adr _ rfl _ rfl rfl (op_eql (.base rfl) (.base rfl)) ?_
                                                                          refine jg_adr _ rfl _ rfl rfl (op_assign (.base rfl)) ?_
                                                                          refine jg_nil ?_
                                                                          refine jn_keep [3, 26] [] (.cons rfl (.cons rfl .nil)) .nil ?_
                                                                          refine jn_seq ?_
                                                                          refine j_cond rfl (fun h40 => ?_) (fun h40 => ?_)
                                                                          · have g40 := h40; try simp at h40
                                                                            refine j_skip (jn_seq ?_)
                                                                            refine j_cond_t rfl g40 (j_seq ?_)
                                                                            refine j_region ?_
                                                                            refine jg_adr _ rfl _ rfl rfl (op_assign (.base rfl)) ?_
                                                                            refine jg_nil ?_
                                                                            refine jn_keep [2] [] (.cons rfl .nil) .nil ?_
                                                                            refine jn_seq (j_ret (jr_blk (jr_seq ?_)))
                                                                            first | (subst_vars; exact jr_fin1 Tryz.results29 (res_tmp rfl) rfl (ri (by decide))) | exact jr_fin1 Tryz.results29 (res_tmp rfl) rfl (ri (by unfold arity; rw [if_neg (by omega), if_neg (by omega), if_neg (by omega), if_neg (by omega)]))
                                                                          · have g40 := h40; try simp at h40
                                                                            refine j_region ?_
                                                                            refine jg_adr _ rfl _ rfl rfl (op_eql (.base rfl) (.base rfl)) ?_
                                                                            refine jg_adr _ rfl _ rfl rfl (op_assign (.base rfl)) ?_
                                                                            refine jg_nil ?_
                                                                            refine jn_keep [3, 26] [] (.cons rfl (.cons rfl .nil)) .nil ?_
                                                                            refine jn_seq ?_
                                                                            refine j_cond rfl (fun h41 => ?_) (fun h41 => ?_)
                                                                            · have g41 := h41; try simp at h41
                                                                              refine j_seq ?_
                                                                              refine j_region ?_
                                                                              refine jg_adr _ rfl _ rfl rfl (op_assign (.base rfl)) ?_
                                                                              refine jg_nil ?_
                                                                              refine jn_keep [2] [] (.cons rfl .nil) .nil ?_
                                                                              refine jn_seq (j_ret (jr_blk (jr_seq ?_)))
                                                                              first | (subst_vars; exact jr_fin1 Tryz.results29 (res_tmp rfl) rfl (ri (by decide))) | exact jr_fin1 Tryz.results29 (res_tmp rfl) rfl (ri (by unfold arity; rw [if_neg (by omega), if_neg (by omega), if_neg (by omega), if_neg (by omega)]))
                                                                            · have g41 := h41; try simp at h41
                                                                              refine j_seq ?_
                                                                              refine j_region ?_
                                                                              refine jg_adr _ rfl _ rfl rfl (op_eql (.base rfl) (.base rfl)) ?_
                                                                              refine jg_adr _ rfl _ rfl rfl (op_assign (.base rfl)) ?_
                                                                              refine jg_nil ?_
                                                                              refine jn_keep [45] [] (.cons rfl .nil) .nil ?_
                                                                              refine jn_seq ?_
                                                                              refine j_cond rfl (fun h43 => ?_) (fun h43 => ?_)
                                                                              · try simp at h43
                                                                                refine j_seq ?_
                                                                                refine j_region ?_
                                                                                refine jg_adr _ rfl _ rfl rfl (op_assign (.base rfl)) ?_
                                                                                refine jg_nil ?_
                                                                                refine jn_keep [2] [] (.cons rfl .nil) .nil ?_
                                                                                refine jn_seq (j_ret (jr_blk (jr_seq ?_)))
                                                                                first | (subst_vars; exact jr_fin1 Tryz.results29 (res_tmp rfl) rfl (ri (by decide))) | exact jr_fin1 Tryz.results29 (res_tmp rfl) rfl (ri (by unfold arity; rw [if_neg (by omega), if_neg (by omega), if_neg (by omega), if_neg (by omega)]))
                                                                              · try simp at h43
                                                                                refine j_skip (jn_blk (jn_seq (j_seq ?_)))
                                                                                refine j_region ?_
                                                                                refine jg_adr _ rfl _ rfl rfl (op_assign (.base rfl)) ?_
                                                                                refine jg_nil ?_
                                                                                refine jn_keep [2] [] (.cons rfl .nil) .nil ?_
                                                                                refine jn_seq (j_ret ?_)
                                                                                first | (subst_vars; exact jr_fin1 Tryz.results29 (res_tmp rfl) rfl (ri (by decide))) | exact jr_fin1 Tryz.results29 (res_tmp rfl) rfl (ri (by unfold arity; rw [if_neg (by omega), if_neg (by omega), if_neg (by omega), if_neg (by omega)]))

theorem rarity_ok (op : Int) : Ct Tryz.prog 60 [.raw (.int .i64 op)] (.raw (.int .i64 (arity op))) := by
  refine ct_intro Tryz.func60 rfl rfl Tryz.ntmps60 rfl rfl ?_
  intro w0 ok0
  refine j_seq ?_
  refine j_region ?_
  refine jg_adr _ rfl _ rfl rfl (op_assign (.base rfl)) ?_
  refine jg_nil ?_
  refine jn_keep [0] [] (.cons rfl .nil) .nil ?_
  refine jn_seq (j_seq (j_seq ?_))
  refine j_region ?_
  refine jg_adr _ rfl _ rfl rfl (op_move (.base rfl)) ?_
  refine jg_adr _ rfl _ rfl rfl (op_geq (.base rfl) (.base rfl)) ?_
  refine jg_adr _ rfl _ rfl rfl (op_move (.base rfl)) ?_
  refine jg_gd _ _ _ _ _ _ rfl rfl rfl rfl rfl (fun hg => op_move (.base rfl)) ?_
  refine jg_gd _ _ _ _ _ _ rfl rfl rfl rfl rfl (fun hg => op_leq (.gd rfl hg) (.base rfl)) ?_
  refine jg_adr _ rfl _ rfl rfl (op_pick_and (.base rfl) (.base rfl) rfl (by intro h; first | (rw [h]; rfl) | (rw [hg, h]; rfl) | (rw [h, hg]; rfl) | simp_all)) ?_
  refine jg_adr _ rfl _ rfl rfl (op_move (.base rfl)) ?_
  refine jg_gd _ _ _ _ _ _ rfl rfl rfl rfl rfl (fun hg => op_move (.base rfl)) ?_
  refine jg_gd _ _ _ _ _ _ rfl rfl rfl rfl rfl (fun hg => op_geq (.gd rfl hg) (.base rfl)) ?_
  refine jg_gd _ _ _ _ _ _ rfl rfl rfl rfl rfl (fun hg => op_move (.gd rfl hg)) ?_
  refine jg_gd2 _ _ _ _ _ _ _ rfl rfl rfl rfl rfl (fun hg => op_move (.base rfl)) ?_
  refine jg_gd2 _ _ _ _ _ _ _ rfl rfl rfl rfl rfl (fun hg => op_leq (.gd rfl hg) (.base rfl)) ?_
  refine jg_gd _ _ _ _ _ _ rfl rfl rfl rfl rfl (fun hg => op_pick_and (.gd rfl hg) (.base rfl) rfl (by intro h; first | (rw [h]; rfl) | (rw [hg, h]; rfl) | (rw [h, hg]; rfl) | simp_all)) ?_
  refine jg_adr _ rfl _ rfl rfl (op_pick_or (.base rfl) (.base rfl) rfl (by intro h; first | (rw [h]; rfl) | (rw [hg, h]; rfl) | (rw [h, hg]; rfl) | simp_all)) ?_
  refine jg_nil ?_
  refine jn_keep [0, 16] [] (.cons rfl (.cons rfl .nil)) .nil ?_
  refine jn_seq ?_
  refine j_cond rfl (fun h1 => ?_) (fun h1 => ?_)
  · try simp at h1
    refine j_seq ?_
    refine j_region ?_
    refine jg_adr _ rfl _ rfl rfl (op_assign (.base rfl)) ?_
    refine jg_nil ?_
    refine jn_keep [2] [] (.cons rfl .nil) .nil ?_
    refine jn_seq (j_ret (jr_seq ?_))
    exact jr_fin1 Tryz.results60 (res_tmp rfl) rfl (ri (by unfold arity; (repeat' split) <;> omega))
  · try simp at h1
    refine j_skip (jn_seq (j_seq (j_seq ?_)))
    refine j_region ?_
    refine jg_adr _ rfl _ rfl rfl (op_move (.base rfl)) ?_
    refine jg_nil ?_
    refine jn_keep [0, 17] [] (.cons rfl (.cons rfl .nil)) .nil ?_
    refine jn_seq (j_block (j_seq (j_seq ?_)))
    refine j_region ?_
    refine jg_adr _ rfl _ rfl rfl (op_eql (.base rfl) (.base rfl)) ?_
    refine jg_adr _ rfl _ rfl rfl (op_assign (.base rfl)) ?_
    refine jg_nil ?_
    refine jn_keep [0, 17, 18] [] (.cons rfl (.cons rfl (.cons rfl .nil))) .nil ?_
    refine jn_seq ?_
    refine j_cond rfl (fun h4 => ?_) (fun h4 => ?_)
    · have g4 := h4; try simp at h4
      refine j_skip (jn_seq ?_)
      refine j_cond_t rfl g4 (j_seq ?_)
      refine j_region ?_
      refine jg_adr _ rfl _ rfl rfl (op_assign (.base rfl)) ?_
      refine jg_nil ?_
      refine jn_keep [2] [] (.cons rfl .nil) .nil ?_
      refine jn_seq (j_ret (jr_blk (jr_seq ?_)))
      exact jr_fin1 Tryz.results60 (res_tmp rfl) rfl (ri (by unfold arity; (repeat' split) <;> omega))
    · have g4 := h4; try simp at h4
      refine j_seq ?_
      refine j_region ?_
      refine jg_adr _ rfl _ rfl rfl (op_eql (.base rfl) (.base rfl)) ?_
      refine jg_adr _ rfl _ rfl rfl (op_assign (.base rfl)) ?_
      refine jg_nil ?_
      refine jn_keep [0, 17, 18] [] (.cons rfl (.cons rfl (.cons rfl .nil))) .nil ?_
      refine jn_seq ?_
      refine j_cond rfl (fun h5 => ?_) (fun h5 => ?_)
      · have g5 := h5; try simp at h5
        refine j_skip (jn_seq ?_)
        refine j_cond_t rfl g5 (j_seq ?_)
        refine j_region ?_
        refine jg_adr _ rfl _ rfl rfl (op_assign (.base rfl)) ?_
        refine jg_nil ?_
        refine jn_keep [2] [] (.cons rfl .nil) .nil ?_
        refine jn_seq (j_ret (jr_blk (jr_seq ?_)))
        exact jr_fin1 Tryz.results60 (res_tmp rfl) rfl (ri (by unfold arity; (repeat' split) <;> omega))
      · have g5 := h5; try simp at h5
        refine j_seq ?_
        refine j_region ?_
        refine jg_adr _ rfl _ rfl rfl (op_eql (.base rfl) (.base rfl)) ?_
        refine jg_adr _ rfl _ rfl rfl (op_assign (.base rfl)) ?_
        refine jg_nil ?_
        refine jn_keep [0, 17, 18] [] (.cons rfl (.cons rfl (.cons rfl .nil))) .nil ?_
        refine jn_seq ?_
        refine j_cond rfl (fun h6 => ?_) (fun h6 => ?_)
        · have g6 := h6; try simp at h6
          refine j_skip (jn_seq ?_)
          refine j_cond_t rfl g6 (j_seq ?_)
          refine j_region ?_
          refine jg_adr _ rfl _ rfl rfl (op_assign (.base rfl)) ?_
          refine jg_nil ?_
          refine jn_keep [2] [] (.cons rfl .nil) .nil ?_
          refine jn_seq (j_ret (jr_blk (jr_seq ?_)))
          exact jr_fin1 Tryz.results60 (res_tmp rfl) rfl (ri (by unfold arity; (repeat' split) <;> omega))
        · have g6 := h6; try simp at h6
          refine j_seq ?_
          refine j_region ?_
          refine jg_adr _ rfl _ rfl rfl (op_eql (.base rfl) (.base rfl)) ?_
          refine jg_adr _ rfl _ rfl rfl (op_assign (.base rfl)) ?_
          refine jg_nil ?_
          refine jn_keep [0, 17, 18] [] (.cons rfl (.cons rfl (.cons rfl .nil))) .nil ?_
          refine jn_seq ?_
          refine j_cond rfl (fun h7 => ?_) (fun h7 => ?_)
          · have g7 := h7; try simp at h7
            refine j_skip (jn_seq ?_)
            refine j_cond_t rfl g7 (j_seq ?_)
            refine j_region ?_
            refine jg_adr _ rfl _ rfl rfl (op_assign (.base rfl)) ?_
            refine jg_nil ?_
            refine jn_keep [2] [] (.cons rfl .nil) .nil ?_
            refine jn_seq (j_ret (jr_blk (jr_seq ?_)))
            exact jr_fin1 Tryz.results60 (res_tmp rfl) rfl (ri (by unfold arity; (repeat' split) <;> omega))
          · have g7 := h7; try simp at h7
            refine j_seq ?_
            refine j_region ?_
            refine jg_adr _ rfl _ rfl rfl (op_eql (.base rfl) (.base rfl)) ?_
            refine jg_adr _ rfl _ rfl rfl (op_assign (.base rfl)) ?_
            refine jg_nil ?_
            refine jn_keep [0, 17, 18] [] (.cons rfl (.cons rfl (.cons rfl .nil))) .nil ?_
            refine jn_seq ?_
            refine j_cond rfl (fun h8 => ?_) (fun h8 => ?_)
            · have g8 := h8; try simp at h8
              refine j_skip (jn_seq ?_)
              refine j_cond_t rfl g8 (j_seq ?_)
              refine j_region ?_
              refine jg_adr _ rfl _ rfl rfl (op_assign (.base rfl)) ?_
              refine jg_nil ?_
              refine jn_keep [2] [] (.cons rfl .nil) .nil ?_
              refine jn_seq (j_ret (jr_blk (jr_seq ?_)))
              exact jr_fin1 Tryz.results60 (res_tmp rfl) rfl (ri (by unfold arity; (repeat' split) <;> omega))
            · have g8 := h8; try simp at h8
              refine j_region ?_
              refine jg_adr _ rfl _ rfl rfl (op_eql (.base rfl) (.base rfl)) ?_
              refine jg_adr _ rfl _ rfl rfl (op_assign (.base rfl)) ?_
              refine jg_nil ?_
              refine jn_keep [0, 17, 18] [] (.cons rfl (.cons rfl (.cons rfl .nil))) .nil ?_
              refine jn_seq ?_
              refine j_cond rfl (fun h9 => ?_) (fun h9 => ?_)
              · have g9 := h9; try simp at h9
                refine j_seq ?_
                refine j_region ?_
                refine jg_adr _ rfl _ rfl rfl (op_assign (.base rfl)) ?_
                refine jg_nil ?_
                refine jn_keep [2] [] (.cons rfl .nil) .nil ?_
                refine jn_seq (j_ret (jr_blk (jr_seq ?_)))
                exact jr_fin1 Tryz.results60 (res_tmp rfl) rfl (ri (by unfold arity; (repeat' split) <;> omega))
              · have g9 := h9; try simp at h9
                refine j_seq ?_
                refine j_region ?_
                refine jg_adr _ rfl _ rfl rfl (op_eql (.base rfl) (.base rfl)) ?_
                refine jg_adr _ rfl _ rfl rfl (op_assign (.base rfl)) ?_
                refine jg_nil ?_
                refine jn_keep [0, 25] [] (.cons rfl (.cons rfl .nil)) .nil ?_
                refine jn_seq ?_
                refine j_cond rfl (fun h11 => ?_) (fun h11 => ?_)
                · try simp at h11
                  refine j_seq ?_
                  refine j_region ?_
                  refine jg_adr _ rfl _ rfl rfl (op_assign (.base rfl)) ?_
                  refine jg_nil ?_
                  refine jn_keep [2] [] (.cons rfl .nil) .nil ?_
                  refine jn_seq (j_ret (jr_blk (jr_seq ?_)))
                  exact jr_fin1 Tryz.results60 (res_tmp rfl) rfl (ri (by unfold arity; (repeat' split) <;> omega))
                · try simp at h11
                  refine j_skip (jn_blk (jn_seq (j_seq (j_seq ?_))))
                  refine j_region ?_
                  refine jg_adr _ rfl _ rfl rfl (op_move (.base rfl)) ?_
                  refine jg_adr _ rfl _ rfl rfl (op_geq (.base rfl) (.base rfl)) ?_
                  refine jg_adr _ rfl _ rfl rfl (op_move (.base rfl)) ?_
                  refine jg_gd _ _ _ _ _ _ rfl rfl rfl rfl rfl (fun hg => op_move (.base rfl)) ?_
                  refine jg_gd _ _ _ _ _ _ rfl rfl rfl rfl rfl (fun hg => op_leq (.gd rfl hg) (.base rfl)) ?_
                  refine jg_adr _ rfl _ rfl rfl (op_pick_and (.base rfl) (.base rfl) rfl (by intro h; first | (rw [h]; rfl) | (rw [hg, h]; rfl) | (rw [h, hg]; rfl) | simp_all)) ?_
                  refine jg_nil ?_
                  refine jn_keep [32] [] (.cons rfl .nil) .nil ?_
                  refine jn_seq ?_
                  refine j_cond rfl (fun h13 => ?_) (fun h13 => ?_)
                  · try simp at h13
                    refine j_seq ?_
                    refine j_region ?_
                    refine jg_adr _ rfl _ rfl rfl (op_assign (.base rfl)) ?_
                    refine jg_nil ?_
                    refine jn_keep [2] [] (.cons rfl .nil) .nil ?_
                    refine jn_seq (j_ret (jr_seq ?_))
                    exact jr_fin1 Tryz.results60 (res_tmp rfl) rfl (ri (by unfold arity; (repeat' split) <;> omega))
                  · try simp at h13
                    refine j_skip (jn_seq (j_seq ?_))
                    refine j_region ?_
                    refine jg_adr _ rfl _ rfl rfl (op_assign (.base rfl)) ?_
                    refine jg_nil ?_
                    refine jn_keep [2] [] (.cons rfl .nil) .nil ?_
                    refine jn_seq (j_ret ?_)
                    exact jr_fin1 Tryz.results60 (res_tmp rfl) rfl (ri (by unfold arity; (repeat' split) <;> omega))

theorem structure_ok (e : List TNode) : Ct Tryz.prog 27 [.tv (rSlice rNode) e] (sv3 (structF e)) := by
  refine ct_intro Tryz.func27 rfl rfl Tryz.ntmps27 rfl rfl ?_
  intro w0 ok0
  refine j_len 0 rfl (fun hl0 => ?_)
  refine j_seq ?_
  refine j_region ?_
  refine jg_adr _ rfl _ rfl rfl (op_assign (.base rfl)) ?_
  refine jg_adr _ rfl _ rfl rfl (op_assign (.base rfl)) ?_
  refine jg_adr _ rfl _ rfl rfl (op_assign (.base rfl)) ?_
  refine jg_nil ?_
  refine jn_keep [0] [] (.cons rfl .nil) .nil ?_
  refine jn_seq (j_seq (j_seq ?_))
  refine j_region ?_
  refine jg_adr _ rfl _ rfl rfl (op_move (.base rfl)) ?_
  refine jg_adr _ rfl _ rfl rfl (op_len Tryz.underlying22 (.base rfl)) ?_
  refine jg_adr _ rfl _ rfl rfl (op_gtr (.base rfl) (.base rfl)) ?_
  refine jg_nil ?_
  refine jn_keep [0, 12] [] (.cons rfl (.cons rfl .nil)) .nil ?_
  refine jn_seq ?_
  refine j_cond rfl (fun h1 => ?_) (fun h1 => ?_)
  · try simp at h1
    refine j_seq ?_
    refine j_region ?_
    refine jg_adr _ rfl _ rfl rfl (op_assign (.base rfl)) ?_
    refine jg_adr _ rfl _ rfl rfl (op_assign (.base rfl)) ?_
    refine jg_adr _ rfl _ rfl rfl (op_assign (.base rfl)) ?_
    refine jg_nil ?_
    refine jn_keep [2, 3, 4] [] (.cons rfl (.cons rfl (.cons rfl .nil))) .nil ?_
    refine jn_seq (j_ret (jr_seq ?_))
    exact jr_fin3 Tryz.results27 (res_nil rfl) (res_tmp rfl) (res_tmp rfl) ⟨rfl, rfl, rfl⟩ (sv3_eq (by unfold structF; rw [if_pos (by omega)]))
  · try simp at h1
    refine j_skip (jn_seq (j_seq (j_seq ?_)))
    refine j_region ?_
    refine jg_adr _ rfl _ rfl rfl (op_move (.base rfl)) ?_
    refine jg_adr _ rfl _ rfl rfl (op_len Tryz.underlying22 (.base rfl)) ?_
    refine jg_adr _ rfl _ rfl rfl (op_eql (.base rfl) (.base rfl)) ?_
    refine jg_nil ?_
    refine jn_keep [0, 15] [] (.cons rfl (.cons rfl .nil)) .nil ?_
    refine jn_seq ?_
    refine j_cond rfl (fun h3 => ?_) (fun h3 => ?_)
    · try simp at h3
      refine j_seq ?_
      refine j_region ?_
      refine jg_adr _ rfl _ rfl rfl (op_assign (.base rfl)) ?_
      refine jg_adr _ rfl _ rfl rfl (op_assign (.base rfl)) ?_
      refine jg_adr _ rfl _ rfl rfl (op_assign (.base rfl)) ?_
      refine jg_nil ?_
      refine jn_keep [2, 3, 4] [] (.cons rfl (.cons rfl (.cons rfl .nil))) .nil ?_
      refine jn_seq (j_ret (jr_seq ?_))
      exact jr_fin3 Tryz.results27 (res_nil rfl) (res_tmp rfl) (res_tmp rfl) ⟨rfl, rfl, rfl⟩ (sv3_eq (by subst h3; rfl))
    · simp at h3; have h3' : e.length ≠ 0 := by simpa using h3
      refine j_skip (jn_seq (j_seq ?_))
      refine j_region ?_
      refine jg_adr _ rfl _ rfl rfl (op_move (.base rfl)) ?_
      refine jg_adr _ rfl _ rfl rfl (op_len Tryz.underlying22 (.base rfl)) ?_
      refine jg_os _ rfl (op_make Tryz.underlying28 ty3 z3 rfl by3 (.base rfl) (.base rfl) (by omega) (by unfold maxLen; omega) rfl rfl rfl) ?_
      refine jg_adr _ rfl _ rfl rfl (op_assign (.base rfl)) ?_
      refine jg_nil ?_
      refine jn_keep [0, 5] [18] (.cons rfl (.cons rfl .nil)) (.cons rfl .nil) ?_
      refine jn_seq (j_seq ?_)
      refine j_region ?_
      refine jg_adr _ rfl _ rfl rfl (op_assign (.base rfl)) ?_
      refine jg_nil ?_
      refine jn_keep [0, 5, 6] [18] (.cons rfl (.cons rfl (.cons rfl .nil))) (.cons rfl .nil) ?_
      refine jn_seq (j_seq (j_seq ?_))
      refine j_region ?_
      refine jg_adr _ rfl _ rfl rfl (op_move (.base rfl)) ?_
      refine jg_adr _ rfl _ rfl rfl (op_len Tryz.underlying22 (.base rfl)) ?_
      refine jg_adr _ rfl _ rfl rfl (op_move (.base rfl)) ?_
      refine jg_nil ?_
      refine jn_keep [0, 5, 6, 19, 20, 21] [18] (.cons rfl (.cons rfl (.cons rfl (.cons rfl (.cons rfl (.cons rfl .nil)))))) (.cons rfl .nil) ?_
      refine jn_seq (j_block ?_)
      refine j_vac 64 6 (rInt .i64) rfl rfl rfl ?_
      refine j_loopp (ι := (Nat × List Int × List Int)) (fun (k, stack, starts) => ⟨[(0, .tv (rSlice rNode) e), (5, .own 18 1 0 e.length), (6, .own 64 1 0 stack.length), (19, .tv (rSlice rNode) e), (20, .raw (.int .i64 (e.length))), (21, .raw (.int .i64 ((k : Nat))))], [(18, ⟨rInt .i64, starts ++ List.replicate (e.length - k) 0⟩), (64, ⟨rInt .i64, stack⟩)]⟩) (fun (k, stack, starts) => k ≤ e.length ∧ starts.length = k ∧ stack.length ≤ 12 ∧ sLoop e.length (e.drop k) k stack starts = structF e) (fun (k, stack, starts) => e.length - k) (0, [], []) (by refine ⟨Nat.zero_le _, rfl, by simp, ?_⟩; unfold structF; rw [if_neg (by omega), if_neg (by omega)]; rfl) (fun a w hi => (Sub.inv ⟨(by repeat (first | exact SubS_nil | refine SubS_cons rfl (by first | rfl | (simp; done) | assumption) ?_)), (by repeat (first | exact SubH_nil | refine SubH_cons rfl (by first | rfl | (simp; done) | assumption) ?_))⟩ hi)) ?_
      rintro ⟨k, stack, starts⟩ ⟨hk, hs, hst, hp⟩
      refine j_seq ?_
      refine j_region ?_
      refine jg_adr _ rfl _ rfl rfl (op_lss (.base rfl) (.base rfl)) ?_
      refine jg_nil ?_
      refine jn_keep [0, 5, 6, 19, 20, 21, 22] [18, 64] (.cons rfl (.cons rfl (.cons rfl (.cons rfl (.cons rfl (.cons rfl (.cons rfl .nil))))))) (.cons rfl (.cons rfl .nil)) ?_
      refine jn_seq (j_seq ?_)
      refine j_cond rfl (fun h8 => ?_) (fun h8 => ?_)
      · try simp at h8
        refine j_skip (jn_seq (j_seq (j_block (j_seq ?_))))
        refine j_region ?_
        refine jg_adr _ rfl _ rfl rfl (op_move (.base rfl)) ?_
        refine jg_adr _ rfl _ rfl rfl (op_index Tryz.underlying22 ty56 (.base rfl) (.base rfl) rfl (List.getElem?_eq_getElem (by first | omega | (simp; done) | (simp; omega) | (simp at hg; omega)))) ?_
        refine jg_adr _ rfl _ rfl rfl (op_load ty56 (.base rfl)) ?_
        refine jg_os _ rfl (op_alloc _ z56 rfl rfl rfl) ?_
        refine jg_adr _ rfl _ rfl rfl (op_assign (.base rfl)) ?_
        refine jg_os _ rfl (op_ostore ty56 (.base rfl) rfl rfl (Lens.id _) (.tv (.base rfl))) ?_
        refine jg_nil ?_
        refine jn_keep [0, 5, 6, 7, 8, 19, 20, 21] [8, 18, 64] (.cons rfl (.cons rfl (.cons rfl (.cons rfl (.cons rfl (.cons rfl (.cons rfl (.cons rfl .nil)))))))) (.cons rfl (.cons rfl (.cons rfl .nil))) ?_
        refine jn_seq (j_seq ?_)
        refine j_region ?_
        refine jg_adr _ rfl _ rfl rfl (op_ofield fld56_0 (.base rfl)) ?_
        refine jg_adr _ rfl _ rfl rfl (op_oload ty3 (.base rfl) rfl rfl ln56_0) ?_
        refine jg_adr _ rfl _ rfl rfl (op_call (arity_ok _) (.cons (.base rfl) .nil) rfl rfl) ?_
        refine jg_adr _ rfl _ rfl rfl (op_assign (.base rfl)) ?_
        refine jg_nil ?_
        refine jn_keep [0, 5, 6, 7, 9, 19, 20, 21] [18, 64] (.cons rfl (.cons rfl (.cons rfl (.cons rfl (.cons rfl (.cons rfl (.cons rfl (.cons rfl .nil)))))))) (.cons rfl (.cons rfl .nil)) ?_
        refine jn_seq (j_seq (j_seq ?_))
        refine j_region ?_
        refine jg_adr _ rfl _ rfl rfl (op_move (.base rfl)) ?_
        refine jg_adr _ rfl _ rfl rfl (op_lss (.base rfl) (.base rfl)) ?_
        refine jg_nil ?_
        refine jn_keep [0, 5, 6, 7, 9, 19, 20, 21, 30] [18, 64] (.cons rfl (.cons rfl (.cons rfl (.cons rfl (.cons rfl (.cons rfl (.cons rfl (.cons rfl (.cons rfl .nil))))))))) (.cons rfl (.cons rfl .nil)) ?_
        refine jn_seq ?_
        refine j_cond rfl (fun h11 => ?_) (fun h11 => ?_)
        · try simp at h11
          refine j_seq ?_
          refine j_region ?_
          refine jg_adr _ rfl _ rfl rfl (op_move (.base rfl)) ?_
          refine jg_adr _ rfl _ rfl rfl (op_assign (.base rfl)) ?_
          refine jg_adr _ rfl _ rfl rfl (op_assign (.base rfl)) ?_
          refine jg_adr _ rfl _ rfl rfl (op_assign (.base rfl)) ?_
          refine jg_nil ?_
          refine jn_keep [2, 3, 4] [] (.cons rfl (.cons rfl (.cons rfl .nil))) .nil ?_
          refine jn_seq (j_ret (jr_seq (jr_blk (jr_seq (jr_loop (jr_blk (jr_seq ?_)))))))
          exact jr_fin3 Tryz.results27 (res_nil rfl) (res_tmp rfl) (res_tmp rfl) ⟨rfl, rfl, rfl⟩ (sv3_eq (by rw [← hp, List.drop_eq_getElem_cons (by omega)]; rw [sLoop, if_pos (by omega)]))
        · try simp at h11
          refine j_skip (jn_seq (j_seq (j_seq ?_)))
          refine j_region ?_
          refine jg_adr _ rfl _ rfl rfl (op_move (.base rfl)) ?_
          refine jg_adr _ rfl _ rfl rfl (op_move (.base rfl)) ?_
          refine jg_adr _ rfl _ rfl rfl (op_len_own Tryz.underlying28 (.base rfl)) ?_
          refine jg_adr _ rfl _ rfl rfl (op_gtr (.base rfl) (.base rfl)) ?_
          refine jg_nil ?_
          refine jn_keep [0, 5, 6, 7, 9, 19, 20, 21, 35] [18, 64] (.cons rfl (.cons rfl (.cons rfl (.cons rfl (.cons rfl (.cons rfl (.cons rfl (.cons rfl (.cons rfl .nil))))))))) (.cons rfl (.cons rfl .nil)) ?_
          refine jn_seq ?_
          refine j_cond rfl (fun h13 => ?_) (fun h13 => ?_)
          · try simp at h13
            refine j_seq ?_
            refine j_region ?_
            refine jg_adr _ rfl _ rfl rfl (op_move (.base rfl)) ?_
            refine jg_adr _ rfl _ rfl rfl (op_assign (.base rfl)) ?_
            refine jg_adr _ rfl _ rfl rfl (op_assign (.base rfl)) ?_
            refine jg_adr _ rfl _ rfl rfl (op_assign (.base rfl)) ?_
            refine jg_nil ?_
            refine jn_keep [2, 3, 4] [] (.cons rfl (.cons rfl (.cons rfl .nil))) .nil ?_
            refine jn_seq (j_ret (jr_seq (jr_blk (jr_seq (jr_loop (jr_blk (jr_seq ?_)))))))
            exact jr_fin3 Tryz.results27 (res_nil rfl) (res_tmp rfl) (res_tmp rfl) ⟨rfl, rfl, rfl⟩ (sv3_eq (by rw [← hp, List.drop_eq_getElem_cons (by omega)]; rw [sLoop, if_neg (by omega), if_pos (by omega)]))
          · try simp at h13
            refine j_skip (jn_seq (j_seq ?_))
            refine j_region ?_
            refine jg_adr _ rfl _ rfl rfl (op_move (.base rfl)) ?_
            refine jg_adr _ rfl _ rfl rfl (op_move (.base rfl)) ?_
            refine jg_adr _ rfl _ rfl rfl (op_move (.base rfl)) ?_
            refine jg_adr _ rfl _ rfl rfl (op_oindex Tryz.underlying28 ty3 (.base rfl) (.base rfl) rfl (by first | omega | (simp; done) | (simp; omega))) ?_
            refine jg_os _ rfl (op_ostore ty3 (.base rfl) rfl (List.getElem?_eq_getElem (by first | omega | (simp; done) | (simp; omega))) (Lens.id _) (.raw (.base rfl) rfl)) ?_
            refine jg_nil ?_
            refine jn_keep [0, 5, 6, 7, 9, 19, 20, 21] [18, 64] (.cons rfl (.cons rfl (.cons rfl (.cons rfl (.cons rfl (.cons rfl (.cons rfl (.cons rfl .nil)))))))) (.cons rfl (.cons rfl .nil)) ?_
            refine jn_seq (j_seq (j_seq ?_))
            refine j_region ?_
            refine jg_adr _ rfl _ rfl rfl (op_move (.base rfl)) ?_
            refine jg_adr _ rfl _ rfl rfl (op_gtr (.base rfl) (.base rfl)) ?_
            refine jg_nil ?_
            refine jn_keep [0, 5, 6, 7, 9, 19, 20, 21, 42] [18, 64] (.cons rfl (.cons rfl (.cons rfl (.cons rfl (.cons rfl (.cons rfl (.cons rfl (.cons rfl (.cons rfl .nil))))))))) (.cons rfl (.cons rfl .nil)) ?_
            refine jn_seq ?_
            refine j_cond rfl (fun h16 => ?_) (fun h16 => ?_)
            · try simp at h16
              refine j_region ?_
              refine jg_adr _ rfl _ rfl rfl (op_move (.base rfl)) ?_
              refine jg_adr _ rfl _ rfl rfl (op_move (.base rfl)) ?_
              refine jg_adr _ rfl _ rfl rfl (op_move (.base rfl)) ?_
              refine jg_adr _ rfl _ rfl rfl (op_move (.base rfl)) ?_
              refine jg_adr _ rfl _ rfl rfl (op_len_own Tryz.underlying28 (.base rfl)) ?_
              refine jg_adr _ rfl _ rfl rfl (op_move (.base rfl)) ?_
              refine jg_adr _ rfl _ rfl rfl (op_sub (.base rfl) (.base rfl) (w64 (by omega))) ?_
              refine jg_adr _ rfl _ rfl rfl (op_oindex Tryz.underlying28 ty3 (.base rfl) (.base rfl) (Int.toNat_of_nonneg (by omega)).symm (by first | omega | (simp; done) | (simp; omega))) ?_
              refine jg_adr _ rfl _ rfl rfl (op_oload ty3 (.base rfl) rfl (List.getElem?_eq_getElem (by first | omega | (simp; done) | (simp; omega))) (Lens.id _)) ?_
              refine jg_adr _ rfl _ rfl rfl (op_oindex Tryz.underlying28 ty3 (.base rfl) (.base rfl) rfl (by first | omega | (simp; done) | (simp; omega))) ?_
              refine jg_os _ rfl (op_ostore ty3 (.base rfl) rfl (List.getElem?_eq_getElem (by first | omega | (simp; done) | (simp; omega))) (Lens.id _) (.raw (.base rfl) rfl)) ?_
              refine jg_nil ?_
              refine jn_keep [0, 5, 6, 7, 9, 19, 20, 21] [18, 64] (.cons rfl (.cons rfl (.cons rfl (.cons rfl (.cons rfl (.cons rfl (.cons rfl (.cons rfl .nil)))))))) (.cons rfl (.cons rfl .nil)) ?_
              refine jn_seq (j_seq ?_)
              refine j_draw_bar 11 mo (by kernel_rfl) (by kernel_rfl) (
                AS.cons _ _ rfl (ga_adr rfl rfl rfl (op_move (.base rfl))) (
                  AS.cons _ _ rfl (ga_adr rfl rfl rfl (op_move (.base rfl))) (
                  AS.cons _ _ rfl (ga_adr rfl rfl rfl (op_len_own Tryz.underlying28 (.base rfl))) (
                  AS.cons _ _ rfl (ga_adr rfl rfl rfl (op_move (.base rfl))) (
                  AS.cons _ _ rfl (ga_adr rfl rfl rfl (op_sub (.base rfl) (.base rfl) (w64 (by omega)))) (
                  AS.cons _ _ rfl (ga_adr rfl rfl rfl (op_oslice Tryz.underlying28 ty3 (.base rfl) rfl ⟨_, _, (.base rfl), (Int.toNat_of_nonneg (by omega)).symm⟩ (by omega) (by omega))) (
                  AS.cons _ _ rfl (ga_adr rfl rfl rfl (op_move (.base rfl))) (
                  AS.cons _ _ rfl (ga_adr rfl rfl rfl (op_move (.base rfl))) (
                  AS.cons _ _ rfl (ga_adr rfl rfl rfl (op_oindex Tryz.underlying28 ty3 (.base rfl) (.base rfl) rfl (by first | omega | (simp; done) | (simp; omega)))) (
                  AS.cons _ _ rfl (ga_adr rfl rfl rfl (op_oload ty3 (.base rfl) rfl (List.getElem?_eq_getElem (by first | omega | (simp; done) | (simp; omega))) (Lens.id _))) (
                  AS.cons _ _ rfl (ga_adr rfl rfl rfl (op_bslice (rt := (rInt .i64)) Tryz.underlying28 ty3 z3 rfl (.cons (.raw (.base rfl) rfl) .nil) rfl rfl)) (
                  AS.nil)))))))))))) rfl rfl (op_append [0, 5, 7, 19, 20, 21] Tryz.underlying28 ty3 z3 rfl by3 (.base rfl) rfl (by (try simp); try omega) (.tv (.base rfl)) (by unfold maxLen; (try simp); try omega) (by (try simp); try omega) rfl (.cons rfl (.cons rfl (.cons rfl (.cons rfl (.cons rfl (.cons rfl .nil)))))) rfl) (
                AS.cons _ _ rfl (ga_adr rfl rfl rfl (op_assign (.base rfl))) (
                  AS.nil)) ?_
              refine jn_keep [0, 5, 6, 7, 19, 20, 21] [18, 64] (.cons rfl (.cons rfl (.cons rfl (.cons rfl (.cons rfl (.cons rfl (.cons rfl .nil))))))) (.cons rfl (.cons rfl .nil)) ?_
              refine jn_seq (j_seq ?_)
              refine j_region ?_
              refine jg_adr _ rfl _ rfl rfl (op_move (.base rfl)) ?_
              refine jg_adr _ rfl _ rfl rfl (op_len_own Tryz.underlying28 (.base rfl)) ?_
              refine jg_adr _ rfl _ rfl rfl (op_gtr (.base rfl) (.base rfl)) ?_
              refine jg_nil ?_
              refine jn_keep [0, 5, 6, 7, 19, 20, 21, 67] [18, 64] (.cons rfl (.cons rfl (.cons rfl (.cons rfl (.cons rfl (.cons rfl (.cons rfl (.cons rfl .nil)))))))) (.cons rfl (.cons rfl .nil)) ?_
              refine jn_seq ?_
              refine j_cond rfl (fun h19 => ?_) (fun h19 => ?_)
              · try simp at h19
                refine j_seq ?_
                refine j_region ?_
                refine jg_adr _ rfl _ rfl rfl (op_move (.base rfl)) ?_
                refine jg_adr _ rfl _ rfl rfl (op_assign (.base rfl)) ?_
                refine jg_adr _ rfl _ rfl rfl (op_assign (.base rfl)) ?_
                refine jg_adr _ rfl _ rfl rfl (op_assign (.base rfl)) ?_
                refine jg_nil ?_
                refine jn_keep [2, 3, 4] [] (.cons rfl (.cons rfl (.cons rfl .nil))) .nil ?_
                refine jn_seq (j_ret (jr_blk (jr_seq (jr_loop (jr_blk (jr_seq ?_))))))
                exact jr_fin3 Tryz.results27 (res_nil rfl) (res_tmp rfl) (res_tmp rfl) ⟨rfl, rfl, rfl⟩ (sv3_eq (by rw [← hp, List.drop_eq_getElem_cons (by omega)]; rw [sLoop, if_neg (by omega), if_neg (by omega), if_pos (by simp only [List.length_take]; omega)]))
              · try simp at h19
                refine j_skip (jn_blk (jn_seq ?_))
                refine j_region ?_
                refine jg_adr _ rfl _ rfl rfl (op_add (.base rfl) (.base rfl) (w64 (by omega))) ?_
                refine jg_adr _ rfl _ rfl rfl (op_move (.base rfl)) ?_
                refine jg_nil ?_
                refine jn_keep [0, 5, 6, 19, 20, 21] [18, 64] (.cons rfl (.cons rfl (.cons rfl (.cons rfl (.cons rfl (.cons rfl .nil)))))) (.cons rfl (.cons rfl .nil)) ?_
                first
                | (exact jn_loop (fun a w hi => ⟨(k + 1, stack.take (↑stack.length - arity e[k].1).toNat ++ [stack[0 + (↑stack.length - arity e[k].1).toNat]], starts ++ [stack[0 + (↑stack.length - arity e[k].1).toNat]]), (by simp only []; omega), ⟨by omega, by simp [hs], by simp only [List.length_append, List.length_take, List.length_cons, List.length_nil]; omega, (sLoop_step _ h8 h11 h13 (by omega) _ (by rw [if_pos h16]; simp; rw [List.getElem?_eq_getElem (by omega)]; rfl)).symm.trans hp⟩, Sub.inv ⟨(by repeat (first | exact SubS_nil | refine SubS_cons rfl (by first | rfl | assumption | exact congrArg (SV.own 64 1 0) (by simp; omega)) ?_)), (by repeat (first | exact SubH_nil | refine SubH_cons rfl (by first | rfl | (simp only [Nat.zero_add, List.drop_zero, Nat.sub_zero, set_row _ hs h8, set_row2 _ _ hs, get_row _ hs])) ?_))⟩ hi⟩))
                | (exact jn_loop (fun a w hi => ⟨(k + 1, stack.take (↑stack.length - arity e[k].1).toNat ++ [(k : Int)], starts ++ [(k : Int)]), (by simp only []; omega), ⟨by omega, by simp [hs], by simp only [List.length_append, List.length_take, List.length_cons, List.length_nil]; omega, (sLoop_step _ h8 h11 h13 (by omega) _ (by rw [if_neg (by omega)])).symm.trans hp⟩, Sub.inv ⟨(by repeat (first | exact SubS_nil | refine SubS_cons rfl (by first | rfl | assumption | exact congrArg (SV.own 64 1 0) (by simp; omega)) ?_)), (by repeat (first | exact SubH_nil | refine SubH_cons rfl (by first | rfl | (simp only [Nat.zero_add, List.drop_zero, Nat.sub_zero, set_row _ hs h8, get_row _ hs])) ?_))⟩ hi⟩))
            · try simp at h16
              refine j_skip (jn_seq (j_seq ?_))
              refine j_draw_bar 11 mo (by kernel_rfl) (by kernel_rfl) (
                AS.cons _ _ rfl (ga_adr rfl rfl rfl (op_move (.base rfl))) (
                  AS.cons _ _ rfl (ga_adr rfl rfl rfl (op_move (.base rfl))) (
                  AS.cons _ _ rfl (ga_adr rfl rfl rfl (op_len_own Tryz.underlying28 (.base rfl))) (
                  AS.cons _ _ rfl (ga_adr rfl rfl rfl (op_move (.base rfl))) (
                  AS.cons _ _ rfl (ga_adr rfl rfl rfl (op_sub (.base rfl) (.base rfl) (w64 (by omega)))) (
                  AS.cons _ _ rfl (ga_adr rfl rfl rfl (op_oslice Tryz.underlying28 ty3 (.base rfl) rfl ⟨_, _, (.base rfl), (Int.toNat_of_nonneg (by omega)).symm⟩ (by omega) (by omega))) (
                  AS.cons _ _ rfl (ga_adr rfl rfl rfl (op_move (.base rfl))) (
                  AS.cons _ _ rfl (ga_adr rfl rfl rfl (op_move (.base rfl))) (
                  AS.cons _ _ rfl (ga_adr rfl rfl rfl (op_oindex Tryz.underlying28 ty3 (.base rfl) (.base rfl) rfl (by first | omega | (simp; done) | (simp; omega)))) (
                  AS.cons _ _ rfl (ga_adr rfl rfl rfl (op_oload ty3 (.base rfl) rfl (List.getElem?_eq_getElem (by first | omega | (simp; done) | (simp; omega))) (Lens.id _))) (
                  AS.cons _ _ rfl (ga_adr rfl rfl rfl (op_bslice (rt := (rInt .i64)) Tryz.underlying28 ty3 z3 rfl (.cons (.raw (.base rfl) rfl) .nil) rfl rfl)) (
                  AS.nil)))))))))))) rfl rfl (op_append [0, 5, 7, 19, 20, 21] Tryz.underlying28 ty3 z3 rfl by3 (.base rfl) rfl (by (try simp); try omega) (.tv (.base rfl)) (by unfold maxLen; (try simp); try omega) (by (try simp); try omega) rfl (.cons rfl (.cons rfl (.cons rfl (.cons rfl (.cons rfl (.cons rfl .nil)))))) rfl) (
                AS.cons _ _ rfl (ga_adr rfl rfl rfl (op_assign (.base rfl))) (
                  AS.nil)) ?_
              refine jn_keep [0, 5, 6, 7, 19, 20, 21] [18, 64] (.cons rfl (.cons rfl (.cons rfl (.cons rfl (.cons rfl (.cons rfl (.cons rfl .nil))))))) (.cons rfl (.cons rfl .nil)) ?_
              refine jn_seq (j_seq ?_)
              refine j_region ?_
              refine jg_adr _ rfl _ rfl rfl (op_move (.base rfl)) ?_
              refine jg_adr _ rfl _ rfl rfl (op_len_own Tryz.underlying28 (.base rfl)) ?_
              refine jg_adr _ rfl _ rfl rfl (op_gtr (.base rfl) (.base rfl)) ?_
              refine jg_nil ?_
              refine jn_keep [0, 5, 6, 7, 19, 20, 21, 67] [18, 64] (.cons rfl (.cons rfl (.cons rfl (.cons rfl (.cons rfl (.cons rfl (.cons rfl (.cons rfl .nil)))))))) (.cons rfl (.cons rfl .nil)) ?_
              refine jn_seq ?_
              refine j_cond rfl (fun h19 => ?_) (fun h19 => ?_)
              · try simp at h19
                refine j_seq ?_
                refine j_region ?_
                refine jg_adr _ rfl _ rfl rfl (op_move (.base rfl)) ?_
                refine jg_adr _ rfl _ rfl rfl (op_assign (.base rfl)) ?_
                refine jg_adr _ rfl _ rfl rfl (op_assign (.base rfl)) ?_
                refine jg_adr _ rfl _ rfl rfl (op_assign (.base rfl)) ?_
                refine jg_nil ?_
                refine jn_keep [2, 3, 4] [] (.cons rfl (.cons rfl (.cons rfl .nil))) .nil ?_
                refine jn_seq (j_ret (jr_blk (jr_seq (jr_loop (jr_blk (jr_seq ?_))))))
                exact jr_fin3 Tryz.results27 (res_nil rfl) (res_tmp rfl) (res_tmp rfl) ⟨rfl, rfl, rfl⟩ (sv3_eq (by rw [← hp, List.drop_eq_getElem_cons (by omega)]; rw [sLoop, if_neg (by omega), if_neg (by omega), if_pos (by simp only [List.length_take]; omega)]))
              · try simp at h19
                refine j_skip (jn_blk (jn_seq ?_))
                refine j_region ?_
                refine jg_adr _ rfl _ rfl rfl (op_add (.base rfl) (.base rfl) (w64 (by omega))) ?_
                refine jg_adr _ rfl _ rfl rfl (op_move (.base rfl)) ?_
                refine jg_nil ?_
                refine jn_keep [0, 5, 6, 19, 20, 21] [18, 64] (.cons rfl (.cons rfl (.cons rfl (.cons rfl (.cons rfl (.cons rfl .nil)))))) (.cons rfl (.cons rfl .nil)) ?_
                first
                | (exact jn_loop (fun a w hi => ⟨(k + 1, stack.take (↑stack.length - arity e[k].1).toNat ++ [stack[0 + (↑stack.length - arity e[k].1).toNat]], starts ++ [stack[0 + (↑stack.length - arity e[k].1).toNat]]), (by simp only []; omega), ⟨by omega, by simp [hs], by simp only [List.length_append, List.length_take, List.length_cons, List.length_nil]; omega, (sLoop_step _ h8 h11 h13 (by omega) _ (by rw [if_pos h16]; simp; rw [List.getElem?_eq_getElem (by omega)]; rfl)).symm.trans hp⟩, Sub.inv ⟨(by repeat (first | exact SubS_nil | refine SubS_cons rfl (by first | rfl | assumption | exact congrArg (SV.own 64 1 0) (by simp; omega)) ?_)), (by repeat (first | exact SubH_nil | refine SubH_cons rfl (by first | rfl | (simp only [Nat.zero_add, List.drop_zero, Nat.sub_zero, set_row _ hs h8, set_row2 _ _ hs, get_row _ hs])) ?_))⟩ hi⟩))
                | (exact jn_loop (fun a w hi => ⟨(k + 1, stack.take (↑stack.length - arity e[k].1).toNat ++ [(k : Int)], starts ++ [(k : Int)]), (by simp only []; omega), ⟨by omega, by simp [hs], by simp only [List.length_append, List.length_take, List.length_cons, List.length_nil]; omega, (sLoop_step _ h8 h11 h13 (by omega) _ (by rw [if_neg (by omega)])).symm.trans hp⟩, Sub.inv ⟨(by repeat (first | exact SubS_nil | refine SubS_cons rfl (by first | rfl | assumption | exact congrArg (SV.own 64 1 0) (by simp; omega)) ?_)), (by repeat (first | exact SubH_nil | refine SubH_cons rfl (by first | rfl | (simp only [Nat.zero_add, List.drop_zero, Nat.sub_zero, set_row _ hs h8, get_row _ hs])) ?_))⟩ hi⟩))
      · try simp at h8
        refine j_exit (je_seq (je_loop (je_blk (jn_seq (j_seq (j_seq ?_))))))
        refine j_region ?_
        refine jg_adr _ rfl _ rfl rfl (op_move (.base rfl)) ?_
        refine jg_adr _ rfl _ rfl rfl (op_len_own Tryz.underlying28 (.base rfl)) ?_
        refine jg_adr _ rfl _ rfl rfl (op_gtr (.base rfl) (.base rfl)) ?_
        refine jg_nil ?_
        refine jn_keep [0, 5, 72] [18] (.cons rfl (.cons rfl (.cons rfl .nil))) (.cons rfl .nil) ?_
        refine jn_seq ?_
        refine j_cond rfl (fun h22 => ?_) (fun h22 => ?_)
        · try simp at h22
          refine j_seq ?_
          refine j_region ?_
          refine jg_adr _ rfl _ rfl rfl (op_move (.base rfl)) ?_
          refine jg_adr _ rfl _ rfl rfl (op_len Tryz.underlying22 (.base rfl)) ?_
          refine jg_adr _ rfl _ rfl rfl (op_assign (.base rfl)) ?_
          refine jg_adr _ rfl _ rfl rfl (op_assign (.base rfl)) ?_
          refine jg_adr _ rfl _ rfl rfl (op_assign (.base rfl)) ?_
          refine jg_nil ?_
          refine jn_keep [2, 3, 4] [] (.cons rfl (.cons rfl (.cons rfl .nil))) .nil ?_
          refine jn_seq (j_ret (jr_seq ?_))
          exact jr_fin3 Tryz.results27 (res_nil rfl) (res_tmp rfl) (res_tmp rfl) ⟨rfl, rfl, rfl⟩ (sv3_eq (by rw [← hp, List.drop_of_length_le (by omega), sLoop, if_pos (by omega)]))
        · try simp at h22
          refine j_skip (jn_seq (j_seq ?_))
          refine j_region ?_
          refine jg_adr _ rfl _ rfl rfl (op_move (.base rfl)) ?_
          refine jg_adr _ rfl _ rfl rfl (op_assign (.base rfl)) ?_
          refine jg_adr _ rfl _ rfl rfl (op_assign (.base rfl)) ?_
          refine jg_adr _ rfl _ rfl rfl (op_assign (.base rfl)) ?_
          refine jg_nil ?_
          refine jn_keep [2, 3, 4] [18] (.cons rfl (.cons rfl (.cons rfl .nil))) (.cons rfl .nil) ?_
          refine jn_seq (j_ret ?_)
          refine jr_seal 18 2 [] rfl rfl (by simp; omega) (fun j s h => by cases h) rfl ?_
          exact jr_fin3 Tryz.results27 (res_tmp rfl) (res_tmp rfl) (res_tmp rfl) ⟨rfl, rfl, rfl⟩ (sv3_eq (by rw [← hp, List.drop_of_length_le (show e.length ≤ k by omega), sLoop, if_neg (by omega)]; have e1 : e.length - k = 0 := (by omega); rw [e1, List.replicate_zero, List.append_nil, List.drop_zero, List.take_of_length_le (by omega)]))

theorem rstructure_ok (e : List TNode) : Ct Tryz.prog 37 [.tv (rSlice rNode) e] (sv3 (structF e)) := by
  refine ct_intro Tryz.func37 rfl rfl Tryz.ntmps37 rfl rfl ?_
  intro w0 ok0
  refine j_len 0 rfl (fun hl0 => ?_)
  refine j_seq ?_
  refine j_region ?_
  refine jg_adr _ rfl _ rfl rfl (op_assign (.base rfl)) ?_
  refine jg_adr _ rfl _ rfl rfl (op_assign (.base rfl)) ?_
  refine jg_adr _ rfl _ rfl rfl (op_assign (.base rfl)) ?_
  refine jg_nil ?_
  refine jn_keep [0] [] (.cons rfl .nil) .nil ?_
  refine jn_seq (j_seq (j_seq ?_))
  refine j_region ?_
  refine jg_adr _ rfl _ rfl rfl (op_move (.base rfl)) ?_
  refine jg_adr _ rfl _ rfl rfl (op_len Tryz.underlying22 (.base rfl)) ?_
  refine jg_adr _ rfl _ rfl rfl (op_gtr (.base rfl) (.base rfl)) ?_
  refine jg_nil ?_
  refine jn_keep [0, 12] [] (.cons rfl (.cons rfl .nil)) .nil ?_
  refine jn_seq ?_
  refine j_cond rfl (fun h1 => ?_) (fun h1 => ?_)
  · try simp at h1
    refine j_seq ?_
    refine j_region ?_
    refine jg_adr _ rfl _ rfl rfl (op_assign (.base rfl)) ?_
    refine jg_adr _ rfl _ rfl rfl (op_assign (.base rfl)) ?_
    refine jg_adr _ rfl _ rfl rfl (op_assign (.base rfl)) ?_
    refine jg_nil ?_
    refine jn_keep [2, 3, 4] [] (.cons rfl (.cons rfl (.cons rfl .nil))) .nil ?_
    refine jn_seq (j_ret (jr_seq ?_))
    exact jr_fin3 Tryz.results37 (res_nil rfl) (res_tmp rfl) (res_tmp rfl) ⟨rfl, rfl, rfl⟩ (sv3_eq (by unfold structF; rw [if_pos (by omega)]))
  · try simp at h1
    refine j_skip (jn_seq (j_seq (j_seq ?_)))
    refine j_region ?_
    refine jg_adr _ rfl _ rfl rfl (op_move (.base rfl)) ?_
    refine jg_adr _ rfl _ rfl rfl (op_len Tryz.underlying22 (.base rfl)) ?_
    refine jg_adr _ rfl _ rfl rfl (op_eql (.base rfl) (.base rfl)) ?_
    refine jg_nil ?_
    refine jn_keep [0, 15] [] (.cons rfl (.cons rfl .nil)) .nil ?_
    refine jn_seq ?_
    refine j_cond rfl (fun h3 => ?_) (fun h3 => ?_)
    · try simp at h3
      refine j_seq ?_
      refine j_region ?_
      refine jg_adr _ rfl _ rfl rfl (op_assign (.base rfl)) ?_
      refine jg_adr _ rfl _ rfl rfl (op_assign (.base rfl)) ?_
      refine jg_adr _ rfl _ rfl rfl (op_assign (.base rfl)) ?_
      refine jg_nil ?_
      refine jn_keep [2, 3, 4] [] (.cons rfl (.cons rfl (.cons rfl .nil))) .nil ?_
      refine jn_seq (j_ret (jr_seq ?_))
      exact jr_fin3 Tryz.results37 (res_nil rfl) (res_tmp rfl) (res_tmp rfl) ⟨rfl, rfl, rfl⟩ (sv3_eq (by subst h3; rfl))
    · simp at h3; have h3' : e.length ≠ 0 := by simpa using h3
      refine j_skip (jn_seq (j_seq ?_))
      refine j_region ?_
      refine jg_adr _ rfl _ rfl rfl (op_assign (.base rfl)) ?_
      refine jg_adr _ rfl _ rfl rfl (op_assign (.base rfl)) ?_
      refine jg_nil ?_
      refine jn_keep [0, 5, 6] [] (.cons rfl (.cons rfl (.cons rfl .nil))) .nil ?_
      refine jn_seq (j_seq (j_seq ?_))
      refine j_region ?_
      refine jg_adr _ rfl _ rfl rfl (op_assign (.base rfl)) ?_
      refine jg_nil ?_
      refine jn_keep [0, 5, 6, 7] [] (.cons rfl (.cons rfl (.cons rfl (.cons rfl .nil)))) .nil ?_
      refine jn_seq (j_block ?_)
      refine j_vac 59 5 (rInt .i64) rfl rfl rfl ?_
      refine j_vac 55 6 (rInt .i64) rfl rfl rfl ?_
      refine j_loopp (ι := (Nat × List Int × List Int)) (fun (k, stack, starts) => ⟨[(0, .tv (rSlice rNode) e), (5, .own 59 1 0 starts.length), (6, .own 55 1 0 stack.length), (7, .raw (.int .i64 ((k : Nat))))], [(59, ⟨rInt .i64, starts⟩), (55, ⟨rInt .i64, stack⟩)]⟩) (fun (k, stack, starts) => k ≤ e.length ∧ starts.length = k ∧ stack.length ≤ 12 ∧ sLoop e.length (e.drop k) k stack starts = structF e) (fun (k, stack, starts) => e.length - k) (0, [], []) (by refine ⟨Nat.zero_le _, rfl, by simp, ?_⟩; unfold structF; rw [if_neg (by omega), if_neg (by omega)]; rfl) (fun a w hi => (Sub.inv ⟨(by repeat (first | exact SubS_nil | refine SubS_cons rfl (by first | rfl | (simp; done) | assumption) ?_)), (by repeat (first | exact SubH_nil | refine SubH_cons rfl (by first | rfl | (simp; done) | assumption) ?_))⟩ hi)) ?_
      rintro ⟨k, stack, starts⟩ ⟨hk, hs, hst, hp⟩
      refine j_seq (j_seq ?_)
      refine j_region ?_
      refine jg_adr _ rfl _ rfl rfl (op_move (.base rfl)) ?_
      refine jg_adr _ rfl _ rfl rfl (op_move (.base rfl)) ?_
      refine jg_adr _ rfl _ rfl rfl (op_len Tryz.underlying22 (.base rfl)) ?_
      refine jg_adr _ rfl _ rfl rfl (op_lss (.base rfl) (.base rfl)) ?_
      refine jg_nil ?_
      refine jn_keep [0, 5, 6, 7, 19] [55, 59] (.cons rfl (.cons rfl (.cons rfl (.cons rfl (.cons rfl .nil))))) (.cons rfl (.cons rfl .nil)) ?_
      refine jn_seq ?_
      refine j_cond rfl (fun h7 => ?_) (fun h7 => ?_)
      · try simp at h7
        refine j_skip (jn_seq (j_seq (j_block (j_seq ?_))))
        refine j_region ?_
        refine jg_adr _ rfl _ rfl rfl (op_move (.base rfl)) ?_
        refine jg_adr _ rfl _ rfl rfl (op_move (.base rfl)) ?_
        refine jg_adr _ rfl _ rfl rfl (op_index Tryz.underlying22 ty56 (.base rfl) (.base rfl) rfl (List.getElem?_eq_getElem (by first | omega | (simp; done) | (simp; omega) | (simp at hg; omega)))) ?_
        refine jg_adr _ rfl _ rfl rfl (op_field fld56_0 ln56_0 (.base rfl)) ?_
        refine jg_adr _ rfl _ rfl rfl (op_load ty3 (.base rfl)) ?_
        refine jg_adr _ rfl _ rfl rfl (op_call (rarity_ok _) (.cons (.base rfl) .nil) rfl rfl) ?_
        refine jg_adr _ rfl _ rfl rfl (op_assign (.base rfl)) ?_
        refine jg_nil ?_
        refine jn_keep [0, 5, 6, 7, 8] [55, 59] (.cons rfl (.cons rfl (.cons rfl (.cons rfl (.cons rfl .nil))))) (.cons rfl (.cons rfl .nil)) ?_
        refine jn_seq (j_seq (j_seq ?_))
        refine j_region ?_
        refine jg_adr _ rfl _ rfl rfl (op_move (.base rfl)) ?_
        refine jg_adr _ rfl _ rfl rfl (op_lss (.base rfl) (.base rfl)) ?_
        refine jg_nil ?_
        refine jn_keep [0, 5, 6, 7, 8, 29] [55, 59] (.cons rfl (.cons rfl (.cons rfl (.cons rfl (.cons rfl (.cons rfl .nil)))))) (.cons rfl (.cons rfl .nil)) ?_
        refine jn_seq ?_
        refine j_cond rfl (fun h10 => ?_) (fun h10 => ?_)
        · try simp at h10
          refine j_seq ?_
          refine j_region ?_
          refine jg_adr _ rfl _ rfl rfl (op_move (.base rfl)) ?_
          refine jg_adr _ rfl _ rfl rfl (op_assign (.base rfl)) ?_
          refine jg_adr _ rfl _ rfl rfl (op_assign (.base rfl)) ?_
          refine jg_adr _ rfl _ rfl rfl (op_assign (.base rfl)) ?_
          refine jg_nil ?_
          refine jn_keep [2, 3, 4] [] (.cons rfl (.cons rfl (.cons rfl .nil))) .nil ?_
          refine jn_seq (j_ret (jr_seq (jr_blk (jr_seq (jr_loop (jr_blk (jr_seq ?_)))))))
          exact jr_fin3 Tryz.results37 (res_nil rfl) (res_tmp rfl) (res_tmp rfl) ⟨rfl, rfl, rfl⟩ (sv3_eq (by rw [← hp, List.drop_eq_getElem_cons (by omega)]; rw [sLoop, if_pos (by omega)]))
        · try simp at h10
          refine j_skip (jn_seq (j_seq (j_seq ?_)))
          refine j_region ?_
          refine jg_adr _ rfl _ rfl rfl (op_move (.base rfl)) ?_
          refine jg_adr _ rfl _ rfl rfl (op_move (.base rfl)) ?_
          refine jg_adr _ rfl _ rfl rfl (op_len_own Tryz.underlying28 (.base rfl)) ?_
          refine jg_adr _ rfl _ rfl rfl (op_gtr (.base rfl) (.base rfl)) ?_
          refine jg_nil ?_
          refine jn_keep [0, 5, 6, 7, 8, 34] [55, 59] (.cons rfl (.cons rfl (.cons rfl (.cons rfl (.cons rfl (.cons rfl .nil)))))) (.cons rfl (.cons rfl .nil)) ?_
          refine jn_seq ?_
          refine j_cond rfl (fun h12 => ?_) (fun h12 => ?_)
          · try simp at h12
            refine j_seq ?_
            refine j_region ?_
            refine jg_adr _ rfl _ rfl rfl (op_move (.base rfl)) ?_
            refine jg_adr _ rfl _ rfl rfl (op_assign (.base rfl)) ?_
            refine jg_adr _ rfl _ rfl rfl (op_assign (.base rfl)) ?_
            refine jg_adr _ rfl _ rfl rfl (op_assign (.base rfl)) ?_
            refine jg_nil ?_
            refine jn_keep [2, 3, 4] [] (.cons rfl (.cons rfl (.cons rfl .nil))) .nil ?_
            refine jn_seq (j_ret (jr_seq (jr_blk (jr_seq (jr_loop (jr_blk (jr_seq ?_)))))))
            exact jr_fin3 Tryz.results37 (res_nil rfl) (res_tmp rfl) (res_tmp rfl) ⟨rfl, rfl, rfl⟩ (sv3_eq (by rw [← hp, List.drop_eq_getElem_cons (by omega)]; rw [sLoop, if_neg (by omega), if_pos (by omega)]))
          · try simp at h12
            refine j_skip (jn_seq (j_seq ?_))
            refine j_region ?_
            refine jg_adr _ rfl _ rfl rfl (op_move (.base rfl)) ?_
            refine jg_adr _ rfl _ rfl rfl (op_assign (.base rfl)) ?_
            refine jg_nil ?_
            refine jn_keep [0, 5, 6, 7, 8, 9] [55, 59] (.cons rfl (.cons rfl (.cons rfl (.cons rfl (.cons rfl (.cons rfl .nil)))))) (.cons rfl (.cons rfl .nil)) ?_
            refine jn_seq (j_seq (j_seq ?_))
            refine j_region ?_
            refine jg_adr _ rfl _ rfl rfl (op_move (.base rfl)) ?_
            refine jg_adr _ rfl _ rfl rfl (op_gtr (.base rfl) (.base rfl)) ?_
            refine jg_nil ?_
            refine jn_keep [0, 5, 6, 7, 8, 9, 38] [55, 59] (.cons rfl (.cons rfl (.cons rfl (.cons rfl (.cons rfl (.cons rfl (.cons rfl .nil))))))) (.cons rfl (.cons rfl .nil)) ?_
            refine jn_seq ?_
            refine j_cond rfl (fun h15 => ?_) (fun h15 => ?_)
            · try simp at h15
              refine j_seq ?_
              refine j_region ?_
              refine jg_adr _ rfl _ rfl rfl (op_move (.base rfl)) ?_
              refine jg_adr _ rfl _ rfl rfl (op_move (.base rfl)) ?_
              refine jg_adr _ rfl _ rfl rfl (op_len_own Tryz.underlying28 (.base rfl)) ?_
              refine jg_adr _ rfl _ rfl rfl (op_move (.base rfl)) ?_
              refine jg_adr _ rfl _ rfl rfl (op_sub (.base rfl) (.base rfl) (w64 (by omega))) ?_
              refine jg_adr _ rfl _ rfl rfl (op_oindex Tryz.underlying28 ty3 (.base rfl) (.base rfl) (Int.toNat_of_nonneg (by omega)).symm (by first | omega | (simp; done) | (simp; omega))) ?_
              refine jg_adr _ rfl _ rfl rfl (op_oload ty3 (.base rfl) rfl (List.getElem?_eq_getElem (by first | omega | (simp; done) | (simp; omega))) (Lens.id _)) ?_
              refine jg_adr _ rfl _ rfl rfl (op_assign (.base rfl)) ?_
              refine jg_nil ?_
              refine jn_keep [0, 5, 6, 7, 8, 9] [55, 59] (.cons rfl (.cons rfl (.cons rfl (.cons rfl (.cons rfl (.cons rfl .nil)))))) (.cons rfl (.cons rfl .nil)) ?_
              refine jn_seq ?_
              refine j_region ?_
              refine jg_adr _ rfl _ rfl rfl (op_move (.base rfl)) ?_
              refine jg_adr _ rfl _ rfl rfl (op_move (.base rfl)) ?_
              refine jg_adr _ rfl _ rfl rfl (op_len_own Tryz.underlying28 (.base rfl)) ?_
              refine jg_adr _ rfl _ rfl rfl (op_move (.base rfl)) ?_
              refine jg_adr _ rfl _ rfl rfl (op_sub (.base rfl) (.base rfl) (w64 (by omega))) ?_
              refine jg_adr _ rfl _ rfl rfl (op_oslice Tryz.underlying28 ty3 (.base rfl) rfl ⟨_, _, (.base rfl), (Int.toNat_of_nonneg (by omega)).symm⟩ (by omega) (by omega)) ?_
              refine jg_adr _ rfl _ rfl rfl (op_assign (.base rfl)) ?_
              refine jg_nil ?_
              refine jn_keep [0, 5, 6, 7, 9] [55, 59] (.cons rfl (.cons rfl (.cons rfl (.cons rfl (.cons rfl .nil))))) (.cons rfl (.cons rfl .nil)) ?_
              refine jn_seq (j_seq ?_)
              refine j_region ?_
              refine jg_adr _ rfl _ rfl rfl (op_move (.base rfl)) ?_
              refine jg_adr _ rfl _ rfl rfl (op_move (.base rfl)) ?_
              refine jg_adr _ rfl _ rfl rfl (op_bslice (rt := (rInt .i64)) Tryz.underlying28 ty3 z3 rfl (.cons (.raw (.base rfl) rfl) .nil) rfl rfl) ?_
              refine jg_os _ rfl (op_append [0, 5, 7, 9] Tryz.underlying28 ty3 z3 rfl by3 (.base rfl) rfl (by (try simp); try omega) (.tv (.base rfl)) (by unfold maxLen; (try simp); try omega) (by (try simp); try omega) rfl (.cons rfl (.cons rfl (.cons rfl (.cons rfl .nil)))) rfl) ?_
              refine jg_adr _ rfl _ rfl rfl (op_assign (.base rfl)) ?_
              refine jg_nil ?_
              refine jn_keep [0, 5, 6, 7, 9] [55, 59] (.cons rfl (.cons rfl (.cons rfl (.cons rfl (.cons rfl .nil))))) (.cons rfl (.cons rfl .nil)) ?_
              refine jn_seq (j_seq ?_)
              refine j_region ?_
              refine jg_adr _ rfl _ rfl rfl (op_move (.base rfl)) ?_
              refine jg_adr _ rfl _ rfl rfl (op_move (.base rfl)) ?_
              refine jg_adr _ rfl _ rfl rfl (op_bslice (rt := (rInt .i64)) Tryz.underlying28 ty3 z3 rfl (.cons (.raw (.base rfl) rfl) .nil) rfl rfl) ?_
              refine jg_os _ rfl (op_append [0, 6, 7] Tryz.underlying28 ty3 z3 rfl by3 (.base rfl) rfl (by (try simp); try omega) (.tv (.base rfl)) (by unfold maxLen; (try simp); try omega) (by (try simp); try omega) rfl (.cons rfl (.cons rfl (.cons rfl .nil))) rfl) ?_
              refine jg_adr _ rfl _ rfl rfl (op_assign (.base rfl)) ?_
              refine jg_nil ?_
              refine jn_keep [0, 5, 6, 7] [55, 59] (.cons rfl (.cons rfl (.cons rfl (.cons rfl .nil)))) (.cons rfl (.cons rfl .nil)) ?_
              refine jn_seq (j_seq ?_)
              refine j_region ?_
              refine jg_adr _ rfl _ rfl rfl (op_move (.base rfl)) ?_
              refine jg_adr _ rfl _ rfl rfl (op_len_own Tryz.underlying28 (.base rfl)) ?_
              refine jg_adr _ rfl _ rfl rfl (op_gtr (.base rfl) (.base rfl)) ?_
              refine jg_nil ?_
              refine jn_keep [0, 5, 6, 7, 62] [55, 59] (.cons rfl (.cons rfl (.cons rfl (.cons rfl (.cons rfl .nil))))) (.cons rfl (.cons rfl .nil)) ?_
              refine jn_seq ?_
              refine j_cond rfl (fun h20 => ?_) (fun h20 => ?_)
              · try simp at h20
                refine j_seq ?_
                refine j_region ?_
                refine jg_adr _ rfl _ rfl rfl (op_move (.base rfl)) ?_
                refine jg_adr _ rfl _ rfl rfl (op_assign (.base rfl)) ?_
                refine jg_adr _ rfl _ rfl rfl (op_assign (.base rfl)) ?_
                refine jg_adr _ rfl _ rfl rfl (op_assign (.base rfl)) ?_
                refine jg_nil ?_
                refine jn_keep [2, 3, 4] [] (.cons rfl (.cons rfl (.cons rfl .nil))) .nil ?_
                refine jn_seq (j_ret (jr_blk (jr_seq (jr_loop (jr_blk (jr_seq ?_))))))
                exact jr_fin3 Tryz.results37 (res_nil rfl) (res_tmp rfl) (res_tmp rfl) ⟨rfl, rfl, rfl⟩ (sv3_eq (by rw [← hp, List.drop_eq_getElem_cons (by omega)]; rw [sLoop, if_neg (by omega), if_neg (by omega), if_pos (by simp only [List.length_take]; first | omega | (simp at h20; omega))]))
              · try simp at h20
                refine j_skip (jn_blk (jn_seq ?_))
                refine j_region ?_
                refine jg_adr _ rfl _ rfl rfl (op_move (.base rfl)) ?_
                refine jg_adr _ rfl _ rfl rfl (op_add (.base rfl) (.base rfl) (w64 (by omega))) ?_
                refine jg_adr _ rfl _ rfl rfl (op_assign (.base rfl)) ?_
                refine jg_nil ?_
                refine jn_keep [0, 5, 6, 7] [55, 59] (.cons rfl (.cons rfl (.cons rfl (.cons rfl .nil)))) (.cons rfl (.cons rfl .nil)) ?_
                first
                | (exact jn_loop (fun a w hi => ⟨(k + 1, stack.take (↑stack.length - arity e[k].1).toNat ++ [stack[0 + (↑stack.length - arity e[k].1).toNat]], starts ++ [stack[0 + (↑stack.length - arity e[k].1).toNat]]), (by simp only []; omega), ⟨by omega, by simp [hs], by simp only [List.length_append, List.length_take, List.length_cons, List.length_nil]; omega, (sLoop_step _ h7 h10 h12 (by first | omega | (simp at h20; omega)) _ (by rw [if_pos h15]; simp; rw [List.getElem?_eq_getElem (by omega)]; rfl)).symm.trans hp⟩, Sub.inv ⟨(by repeat (first | exact SubS_nil | refine SubS_cons rfl (by first | rfl | assumption | exact congrArg (SV.own 55 1 0) (by simp; omega) | exact congrArg (SV.own 59 1 0) (by simp)) ?_)), (by repeat (first | exact SubH_nil | refine SubH_cons rfl (by first | rfl | (simp; done)) ?_))⟩ hi⟩))
                | (have e0 : (↑stack.length - arity e[k].1).toNat = stack.length := (by omega); exact jn_loop (fun a w hi => ⟨(k + 1, stack.take (↑stack.length - arity e[k].1).toNat ++ [(k : Int)], starts ++ [(k : Int)]), (by simp only []; omega), ⟨by omega, by simp [hs], by simp only [List.length_append, List.length_take, List.length_cons, List.length_nil]; omega, (sLoop_step _ h7 h10 h12 (by first | omega | (simp at h20; omega)) _ (by rw [if_neg (by omega)])).symm.trans hp⟩, Sub.inv ⟨(by repeat (first | exact SubS_nil | refine SubS_cons rfl (by first | rfl | assumption | exact congrArg (SV.own 55 1 0) (by simp; omega) | exact congrArg (SV.own 59 1 0) (by simp)) ?_)), (by repeat (first | exact SubH_nil | refine SubH_cons rfl (by first | rfl | (simp [e0]; done)) ?_))⟩ hi⟩))
            · try simp at h15
              refine j_skip (jn_seq (j_seq ?_))
              refine j_region ?_
              refine jg_adr _ rfl _ rfl rfl (op_move (.base rfl)) ?_
              refine jg_adr _ rfl _ rfl rfl (op_move (.base rfl)) ?_
              refine jg_adr _ rfl _ rfl rfl (op_bslice (rt := (rInt .i64)) Tryz.underlying28 ty3 z3 rfl (.cons (.raw (.base rfl) rfl) .nil) rfl rfl) ?_
              refine jg_os _ rfl (op_append [0, 5, 7, 9] Tryz.underlying28 ty3 z3 rfl by3 (.base rfl) rfl (by (try simp); try omega) (.tv (.base rfl)) (by unfold maxLen; (try simp); try omega) (by (try simp); try omega) rfl (.cons rfl (.cons rfl (.cons rfl (.cons rfl .nil)))) rfl) ?_
              refine jg_adr _ rfl _ rfl rfl (op_assign (.base rfl)) ?_
              refine jg_nil ?_
              refine jn_keep [0, 5, 6, 7, 9] [55, 59] (.cons rfl (.cons rfl (.cons rfl (.cons rfl (.cons rfl .nil))))) (.cons rfl (.cons rfl .nil)) ?_
              refine jn_seq (j_seq ?_)
              refine j_region ?_
              refine jg_adr _ rfl _ rfl rfl (op_move (.base rfl)) ?_
              refine jg_adr _ rfl _ rfl rfl (op_move (.base rfl)) ?_
              refine jg_adr _ rfl _ rfl rfl (op_bslice (rt := (rInt .i64)) Tryz.underlying28 ty3 z3 rfl (.cons (.raw (.base rfl) rfl) .nil) rfl rfl) ?_
              refine jg_os _ rfl (op_append [0, 6, 7] Tryz.underlying28 ty3 z3 rfl by3 (.base rfl) rfl (by (try simp); try omega) (.tv (.base rfl)) (by unfold maxLen; (try simp); try omega) (by (try simp); try omega) rfl (.cons rfl (.cons rfl (.cons rfl .nil))) rfl) ?_
              refine jg_adr _ rfl _ rfl rfl (op_assign (.base rfl)) ?_
              refine jg_nil ?_
              refine jn_keep [0, 5, 6, 7] [55, 59] (.cons rfl (.cons rfl (.cons rfl (.cons rfl .nil)))) (.cons rfl (.cons rfl .nil)) ?_
              refine jn_seq (j_seq ?_)
              refine j_region ?_
              refine jg_adr _ rfl _ rfl rfl (op_move (.base rfl)) ?_
              refine jg_adr _ rfl _ rfl rfl (op_len_own Tryz.underlying28 (.base rfl)) ?_
              refine jg_adr _ rfl _ rfl rfl (op_gtr (.base rfl) (.base rfl)) ?_
              refine jg_nil ?_
              refine jn_keep [0, 5, 6, 7, 62] [55, 59] (.cons rfl (.cons rfl (.cons rfl (.cons rfl (.cons rfl .nil))))) (.cons rfl (.cons rfl .nil)) ?_
              refine jn_seq ?_
              refine j_cond rfl (fun h20 => ?_) (fun h20 => ?_)
              · try simp at h20
                refine j_seq ?_
                refine j_region ?_
                refine jg_adr _ rfl _ rfl rfl (op_move (.base rfl)) ?_
                refine jg_adr _ rfl _ rfl rfl (op_assign (.base rfl)) ?_
                refine jg_adr _ rfl _ rfl rfl (op_assign (.base rfl)) ?_
                refine jg_adr _ rfl _ rfl rfl (op_assign (.base rfl)) ?_
                refine jg_nil ?_
                refine jn_keep [2, 3, 4] [] (.cons rfl (.cons rfl (.cons rfl .nil))) .nil ?_
                refine jn_seq (j_ret (jr_blk (jr_seq (jr_loop (jr_blk (jr_seq ?_))))))
                exact jr_fin3 Tryz.results37 (res_nil rfl) (res_tmp rfl) (res_tmp rfl) ⟨rfl, rfl, rfl⟩ (sv3_eq (by rw [← hp, List.drop_eq_getElem_cons (by omega)]; rw [sLoop, if_neg (by omega), if_neg (by omega), if_pos (by simp only [List.length_take]; first | omega | (simp at h20; omega))]))
              · try simp at h20
                refine j_skip (jn_blk (jn_seq ?_))
                refine j_region ?_
                refine jg_adr _ rfl _ rfl rfl (op_move (.base rfl)) ?_
                refine jg_adr _ rfl _ rfl rfl (op_add (.base rfl) (.base rfl) (w64 (by omega))) ?_
                refine jg_adr _ rfl _ rfl rfl (op_assign (.base rfl)) ?_
                refine jg_nil ?_
                refine jn_keep [0, 5, 6, 7] [55, 59] (.cons rfl (.cons rfl (.cons rfl (.cons rfl .nil)))) (.cons rfl (.cons rfl .nil)) ?_
                first
                | (exact jn_loop (fun a w hi => ⟨(k + 1, stack.take (↑stack.length - arity e[k].1).toNat ++ [stack[0 + (↑stack.length - arity e[k].1).toNat]], starts ++ [stack[0 + (↑stack.length - arity e[k].1).toNat]]), (by simp only []; omega), ⟨by omega, by simp [hs], by simp only [List.length_append, List.length_take, List.length_cons, List.length_nil]; omega, (sLoop_step _ h7 h10 h12 (by first | omega | (simp at h20; omega)) _ (by rw [if_pos h15]; simp; rw [List.getElem?_eq_getElem (by omega)]; rfl)).symm.trans hp⟩, Sub.inv ⟨(by repeat (first | exact SubS_nil | refine SubS_cons rfl (by first | rfl | assumption | exact congrArg (SV.own 55 1 0) (by simp; omega) | exact congrArg (SV.own 59 1 0) (by simp)) ?_)), (by repeat (first | exact SubH_nil | refine SubH_cons rfl (by first | rfl | (simp; done)) ?_))⟩ hi⟩))
                | (have e0 : (↑stack.length - arity e[k].1).toNat = stack.length := (by omega); exact jn_loop (fun a w hi => ⟨(k + 1, stack.take (↑stack.length - arity e[k].1).toNat ++ [(k : Int)], starts ++ [(k : Int)]), (by simp only []; omega), ⟨by omega, by simp [hs], by simp only [List.length_append, List.length_take, List.length_cons, List.length_nil]; omega, (sLoop_step _ h7 h10 h12 (by first | omega | (simp at h20; omega)) _ (by rw [if_neg (by omega)])).symm.trans hp⟩, Sub.inv ⟨(by repeat (first | exact SubS_nil | refine SubS_cons rfl (by first | rfl | assumption | exact congrArg (SV.own 55 1 0) (by simp; omega) | exact congrArg (SV.own 59 1 0) (by simp)) ?_)), (by repeat (first | exact SubH_nil | refine SubH_cons rfl (by first | rfl | (simp [e0]; done)) ?_))⟩ hi⟩))
      · try simp at h7
        refine j_exit (je_seq (je_loop (je_blk (jn_seq (j_seq (j_seq ?_))))))
        refine j_region ?_
        refine jg_adr _ rfl _ rfl rfl (op_move (.base rfl)) ?_
        refine jg_adr _ rfl _ rfl rfl (op_len_own Tryz.underlying28 (.base rfl)) ?_
        refine jg_adr _ rfl _ rfl rfl (op_gtr (.base rfl) (.base rfl)) ?_
        refine jg_nil ?_
        refine jn_keep [0, 5, 66] [59] (.cons rfl (.cons rfl (.cons rfl .nil))) (.cons rfl .nil) ?_
        refine jn_seq ?_
        refine j_cond rfl (fun h22 => ?_) (fun h22 => ?_)
        · try simp at h22
          refine j_seq ?_
          refine j_region ?_
          refine jg_adr _ rfl _ rfl rfl (op_move (.base rfl)) ?_
          refine jg_adr _ rfl _ rfl rfl (op_len Tryz.underlying22 (.base rfl)) ?_
          refine jg_adr _ rfl _ rfl rfl (op_assign (.base rfl)) ?_
          refine jg_adr _ rfl _ rfl rfl (op_assign (.base rfl)) ?_
          refine jg_adr _ rfl _ rfl rfl (op_assign (.base rfl)) ?_
          refine jg_nil ?_
          refine jn_keep [2, 3, 4] [] (.cons rfl (.cons rfl (.cons rfl .nil))) .nil ?_
          refine jn_seq (j_ret (jr_seq ?_))
          exact jr_fin3 Tryz.results37 (res_nil rfl) (res_tmp rfl) (res_tmp rfl) ⟨rfl, rfl, rfl⟩ (sv3_eq (by rw [← hp, List.drop_of_length_le (show e.length ≤ k by omega), sLoop, if_pos (by omega)]))
        · try simp at h22
          refine j_skip (jn_seq (j_seq ?_))
          refine j_region ?_
          refine jg_adr _ rfl _ rfl rfl (op_move (.base rfl)) ?_
          refine jg_adr _ rfl _ rfl rfl (op_assign (.base rfl)) ?_
          refine jg_adr _ rfl _ rfl rfl (op_assign (.base rfl)) ?_
          refine jg_adr _ rfl _ rfl rfl (op_assign (.base rfl)) ?_
          refine jg_nil ?_
          refine jn_keep [2, 3, 4] [59] (.cons rfl (.cons rfl (.cons rfl .nil))) (.cons rfl .nil) ?_
          refine jn_seq (j_ret ?_)
          refine jr_seal 59 2 [] rfl rfl (by simp; try omega) (fun j s h => by cases h) rfl ?_
          exact jr_fin3 Tryz.results37 (res_tmp rfl) (res_tmp rfl) (res_tmp rfl) ⟨rfl, rfl, rfl⟩ (sv3_eq (by rw [← hp, List.drop_of_length_le (show e.length ≤ k by omega), sLoop, if_neg (by omega)]; simp))

end Go.Proofs.YtgoggdaohdablaaGreat
