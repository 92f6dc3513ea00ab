import Derived.Test.YtgoggdaohdablaaGreatP10a
namespace Go.Proofs.YtgoggdaohdablaaGreat
open Go.Eng
set_option maxRecDepth 100000
set_option maxHeartbeats 4000000
set_option linter.unusedVariables false
set_option linter.unusedSimpArgs false


def usesN (op : Int) : Bool := decide ((1 ≤ op ∧ op ≤ 8) ∨ (14 ≤ op ∧ op ≤ 16) ∨ op = 33 ∨ op = 34 ∨ (36 ≤ op ∧ op ≤ 39))
def validMode (m : Int) : Bool := decide (0 ≤ m) && decide (m ≤ 5)
def isNumber (k : Int) : Bool := decide (2 ≤ k ∧ k ≤ 4)
def validType (t : TType) (en : List TEnum) : Bool := if 1 ≤ t.1 ∧ t.1 ≤ 5 then decide (t.2 = 0) else if t.1 = 6 then decide (0 ≤ t.2) && decide (t.2 < en.length) else false

theorem usesN_ok (op : Int) : Ct Tryz.prog 28 [.raw (.int .i64 op)] (.raw (.bool (usesN op))) := by
  refine ct_intro Tryz.func28 rfl rfl Tryz.ntmps28 rfl rfl ?_
  intro w0 ok0
  refine j_seq ?_
  refine j_region ?_
  refine jg_adr _ rfl _ rfl rfl (op_assign (.base rfl)) ?_
  refine jg_nil ?_
  refine jn_keep [0] [] (.cons rfl .nil) .nil ?_
  refine jn_seq (j_seq (j_seq ?_))
  refine j_region ?_
  refine jg_adr _ rfl _ rfl rfl (op_move (.base rfl)) ?_
  refine jg_nil ?_
  refine jn_keep [3] [] (.cons rfl .nil) .nil ?_
  refine jn_seq (j_block (j_seq (j_seq ?_)))
  refine j_region ?_
  refine jg_adr _ rfl _ rfl rfl (op_eql (.base rfl) (.base rfl)) ?_
  refine jg_adr _ rfl _ rfl rfl (op_assign (.base rfl)) ?_
  refine jg_nil ?_
  refine jn_keep [3, 4] [] (.cons rfl (.cons rfl .nil)) .nil ?_
  refine jn_seq ?_
  refine j_cond rfl (fun h2 => ?_) (fun h2 => ?_)
  · have g2 := h2; try simp at h2
    refine j_skip (jn_seq ?_)
    refine j_cond_t rfl g2 (j_seq ?_)
    refine j_region ?_
    refine jg_adr _ rfl _ rfl rfl (op_assign (.base rfl)) ?_
    refine jg_nil ?_
    refine jn_keep [2] [] (.cons rfl .nil) .nil ?_
    refine jn_seq (j_ret (jr_blk (jr_seq ?_)))
    exact jr_fin1 Tryz.results28 (res_tmp rfl) rfl (rb (by subst_vars; first | rfl | (simp [usesN]; done) | (simp [usesN, *]; done) | (rw [Bool.eq_iff_iff]; simp [usesN, *]; omega) | (rw [Bool.eq_iff_iff]; simp [usesN]; omega) | (unfold usesN; simp; omega) | (unfold usesN; (repeat' split) <;> first | rfl | omega | simp_all)))
  · have g2 := h2; try simp at h2
    refine j_seq ?_
    refine j_region ?_
    refine jg_adr _ rfl _ rfl rfl (op_eql (.base rfl) (.base rfl)) ?_
    refine jg_adr _ rfl _ rfl rfl (op_assign (.base rfl)) ?_
    refine jg_nil ?_
    refine jn_keep [3, 4] [] (.cons rfl (.cons rfl .nil)) .nil ?_
    refine jn_seq ?_
    refine j_cond rfl (fun h3 => ?_) (fun h3 => ?_)
    · have g3 := h3; try simp at h3
      refine j_skip (jn_seq ?_)
      refine j_cond_t rfl g3 (j_seq ?_)
      refine j_region ?_
      refine jg_adr _ rfl _ rfl rfl (op_assign (.base rfl)) ?_
      refine jg_nil ?_
      refine jn_keep [2] [] (.cons rfl .nil) .nil ?_
      refine jn_seq (j_ret (jr_blk (jr_seq ?_)))
      exact jr_fin1 Tryz.results28 (res_tmp rfl) rfl (rb (by subst_vars; first | rfl | (simp [usesN]; done) | (simp [usesN, *]; done) | (rw [Bool.eq_iff_iff]; simp [usesN, *]; omega) | (rw [Bool.eq_iff_iff]; simp [usesN]; omega) | (unfold usesN; simp; omega) | (unfold usesN; (repeat' split) <;> first | rfl | omega | simp_all)))
    · have g3 := h3; try simp at h3
      refine j_seq ?_
      refine j_region ?_
      refine jg_adr _ rfl _ rfl rfl (op_eql (.base rfl) (.base rfl)) ?_
      refine jg_adr _ rfl _ rfl rfl (op_assign (.base rfl)) ?_
      refine jg_nil ?_
      refine jn_keep [3, 4] [] (.cons rfl (.cons rfl .nil)) .nil ?_
      refine jn_seq ?_
      refine j_cond rfl (fun h4 => ?_) (fun h4 => ?_)
      · have g4 := h4; try simp at h4
        refine j_skip (jn_seq ?_)
        refine j_cond_t rfl g4 (j_seq ?_)
        refine j_region ?_
        refine jg_adr _ rfl _ rfl rfl (op_assign (.base rfl)) ?_
        refine jg_nil ?_
        refine jn_keep [2] [] (.cons rfl .nil) .nil ?_
        refine jn_seq (j_ret (jr_blk (jr_seq ?_)))
        exact jr_fin1 Tryz.results28 (res_tmp rfl) rfl (rb (by subst_vars; first | rfl | (simp [usesN]; done) | (simp [usesN, *]; done) | (rw [Bool.eq_iff_iff]; simp [usesN, *]; omega) | (rw [Bool.eq_iff_iff]; simp [usesN]; omega) | (unfold usesN; simp; omega) | (unfold usesN; (repeat' split) <;> first | rfl | omega | simp_all)))
      · have g4 := h4; try simp at h4
        refine j_seq ?_
        refine j_region ?_
        refine jg_adr _ rfl _ rfl rfl (op_eql (.base rfl) (.base rfl)) ?_
        refine jg_adr _ rfl _ rfl rfl (op_assign (.base rfl)) ?_
        refine jg_nil ?_
        refine jn_keep [3, 4] [] (.cons rfl (.cons rfl .nil)) .nil ?_
        refine jn_seq ?_
        refine j_cond rfl (fun h5 => ?_) (fun h5 => ?_)
        · have g5 := h5; try simp at h5
          refine j_skip (jn_seq ?_)
          refine j_cond_t rfl g5 (j_seq ?_)
          refine j_region ?_
          refine jg_adr _ rfl _ rfl rfl (op_assign (.base rfl)) ?_
          refine jg_nil ?_
          refine jn_keep [2] [] (.cons rfl .nil) .nil ?_
          refine jn_seq (j_ret (jr_blk (jr_seq ?_)))
          exact jr_fin1 Tryz.results28 (res_tmp rfl) rfl (rb (by subst_vars; first | rfl | (simp [usesN]; done) | (simp [usesN, *]; done) | (rw [Bool.eq_iff_iff]; simp [usesN, *]; omega) | (rw [Bool.eq_iff_iff]; simp [usesN]; omega) | (unfold usesN; simp; omega) | (unfold usesN; (repeat' split) <;> first | rfl | omega | simp_all)))
        · have g5 := h5; try simp at h5
          refine j_seq ?_
          refine j_region ?_
          refine jg_adr _ rfl _ rfl rfl (op_eql (.base rfl) (.base rfl)) ?_
          refine jg_adr _ rfl _ rfl rfl (op_assign (.base rfl)) ?_
          refine jg_nil ?_
          refine jn_keep [3, 4] [] (.cons rfl (.cons rfl .nil)) .nil ?_
          refine jn_seq ?_
          refine j_cond rfl (fun h6 => ?_) (fun h6 => ?_)
          · have g6 := h6; try simp at h6
            refine j_skip (jn_seq ?_)
            refine j_cond_t rfl g6 (j_seq ?_)
            refine j_region ?_
            refine jg_adr _ rfl _ rfl rfl (op_assign (.base rfl)) ?_
            refine jg_nil ?_
            refine jn_keep [2] [] (.cons rfl .nil) .nil ?_
            refine jn_seq (j_ret (jr_blk (jr_seq ?_)))
            exact jr_fin1 Tryz.results28 (res_tmp rfl) rfl (rb (by subst_vars; first | rfl | (simp [usesN]; done) | (simp [usesN, *]; done) | (rw [Bool.eq_iff_iff]; simp [usesN, *]; omega) | (rw [Bool.eq_iff_iff]; simp [usesN]; omega) | (unfold usesN; simp; omega) | (unfold usesN; (repeat' split) <;> first | rfl | omega | simp_all)))
          · have g6 := h6; try simp at h6
            refine j_seq ?_
            refine j_region ?_
            refine jg_adr _ rfl _ rfl rfl (op_eql (.base rfl) (.base rfl)) ?_
            refine jg_adr _ rfl _ rfl rfl (op_assign (.base rfl)) ?_
            refine jg_nil ?_
            refine jn_keep [3, 4] [] (.cons rfl (.cons rfl .nil)) .nil ?_
            refine jn_seq ?_
            refine j_cond rfl (fun h7 => ?_) (fun h7 => ?_)
            · have g7 := h7; try simp at h7
              refine j_skip (jn_seq ?_)
              refine j_cond_t rfl g7 (j_seq ?_)
              refine j_region ?_
              refine jg_adr _ rfl _ rfl rfl (op_assign (.base rfl)) ?_
              refine jg_nil ?_
              refine jn_keep [2] [] (.cons rfl .nil) .nil ?_
              refine jn_seq (j_ret (jr_blk (jr_seq ?_)))
              exact jr_fin1 Tryz.results28 (res_tmp rfl) rfl (rb (by subst_vars; first | rfl | (simp [usesN]; done) | (simp [usesN, *]; done) | (rw [Bool.eq_iff_iff]; simp [usesN, *]; omega) | (rw [Bool.eq_iff_iff]; simp [usesN]; omega) | (unfold usesN; simp; omega) | (unfold usesN; (repeat' split) <;> first | rfl | omega | simp_all)))
            · have g7 := h7; try simp at h7
              refine j_seq ?_
              refine j_region ?_
              refine jg_adr _ rfl _ rfl rfl (op_eql (.base rfl) (.base rfl)) ?_
              refine jg_adr _ rfl _ rfl rfl (op_assign (.base rfl)) ?_
              refine jg_nil ?_
              refine jn_keep [3, 4] [] (.cons rfl (.cons rfl .nil)) .nil ?_
              refine jn_seq ?_
              refine j_cond rfl (fun h8 => ?_) (fun h8 => ?_)
              · have g8 := h8; try simp at h8
                refine j_skip (jn_seq ?_)
                refine j_cond_t rfl g8 (j_seq ?_)
                refine j_region ?_
                refine jg_adr _ rfl _ rfl rfl (op_assign (.base rfl)) ?_
                refine jg_nil ?_
                refine jn_keep [2] [] (.cons rfl .nil) .nil ?_
                refine jn_seq (j_ret (jr_blk (jr_seq ?_)))
                exact jr_fin1 Tryz.results28 (res_tmp rfl) rfl (rb (by subst_vars; first | rfl | (simp [usesN]; done) | (simp [usesN, *]; done) | (rw [Bool.eq_iff_iff]; simp [usesN, *]; omega) | (rw [Bool.eq_iff_iff]; simp [usesN]; omega) | (unfold usesN; simp; omega) | (unfold usesN; (repeat' split) <;> first | rfl | omega | simp_all)))
              · have g8 := h8; try simp at h8
                refine j_seq ?_
                refine j_region ?_
                refine jg_adr _ rfl _ rfl rfl (op_eql (.base rfl) (.base rfl)) ?_
                refine jg_adr _ rfl _ rfl rfl (op_assign (.base rfl)) ?_
                refine jg_nil ?_
                refine jn_keep [3, 4] [] (.cons rfl (.cons rfl .nil)) .nil ?_
                refine jn_seq ?_
                refine j_cond rfl (fun h9 => ?_) (fun h9 => ?_)
                · have g9 := h9; try simp at h9
                  refine j_skip (jn_seq ?_)
                  refine j_cond_t rfl g9 (j_seq ?_)
                  refine j_region ?_
                  refine jg_adr _ rfl _ rfl rfl (op_assign (.base rfl)) ?_
                  refine jg_nil ?_
                  refine jn_keep [2] [] (.cons rfl .nil) .nil ?_
                  refine jn_seq (j_ret (jr_blk (jr_seq ?_)))
                  exact jr_fin1 Tryz.results28 (res_tmp rfl) rfl (rb (by subst_vars; first | rfl | (simp [usesN]; done) | (simp [usesN, *]; done) | (rw [Bool.eq_iff_iff]; simp [usesN, *]; omega) | (rw [Bool.eq_iff_iff]; simp [usesN]; omega) | (unfold usesN; simp; omega) | (unfold usesN; (repeat' split) <;> first | rfl | omega | simp_all)))
                · have g9 := h9; try simp at h9
                  refine j_seq ?_
                  refine j_region ?_
                  refine jg_adr _ rfl _ rfl rfl (op_eql (.base rfl) (.base rfl)) ?_
                  refine jg_adr _ rfl _ rfl rfl (op_assign (.base rfl)) ?_
                  refine jg_nil ?_
                  refine jn_keep [3, 4] [] (.cons rfl (.cons rfl .nil)) .nil ?_
                  refine jn_seq ?_
                  refine j_cond rfl (fun h10 => ?_) (fun h10 => ?_)
                  · have g10 := h10; try simp at h10
                    refine j_skip (jn_seq ?_)
                    refine j_cond_t rfl g10 (j_seq ?_)
                    refine j_region ?_
                    refine jg_adr _ rfl _ rfl rfl (op_assign (.base rfl)) ?_
                    refine jg_nil ?_
                    refine jn_keep [2] [] (.cons rfl .nil) .nil ?_
                    refine jn_seq (j_ret (jr_blk (jr_seq ?_)))
                    exact jr_fin1 Tryz.results28 (res_tmp rfl) rfl (rb (by subst_vars; first | rfl | (simp [usesN]; done) | (simp [usesN, *]; done) | (rw [Bool.eq_iff_iff]; simp [usesN, *]; omega) | (rw [Bool.eq_iff_iff]; simp [usesN]; omega) | (unfold usesN; simp; omega) | (unfold usesN; (repeat' split) <;> first | rfl | omega | simp_all)))
                  · have g10 := h10; try simp at h10
                    refine j_seq ?_
                    refine j_region ?_
                    refine jg_adr _ rfl _ rfl rfl (op_eql (.base rfl) (.base rfl)) ?_
                    refine jg_adr _ rfl _ rfl rfl (op_assign (.base rfl)) ?_
                    refine jg_nil ?_
                    refine jn_keep [3, 4] [] (.cons rfl (.cons rfl .nil)) .nil ?_
                    refine jn_seq ?_
                    refine j_cond rfl (fun h11 => ?_) (fun h11 => ?_)
                    · have g11 := h11; try simp at h11
                      refine j_skip (jn_seq ?_)
                      refine j_cond_t rfl g11 (j_seq ?_)
                      refine j_region ?_
                      refine jg_adr _ rfl _ rfl rfl (op_assign (.base rfl)) ?_
                      refine jg_nil ?_
                      refine jn_keep [2] [] (.cons rfl .nil) .nil ?_
                      refine jn_seq (j_ret (jr_blk (jr_seq ?_)))
                      exact jr_fin1 Tryz.results28 (res_tmp rfl) rfl (rb (by subst_vars; first | rfl | (simp [usesN]; done) | (simp [usesN, *]; done) | (rw [Bool.eq_iff_iff]; simp [usesN, *]; omega) | (rw [Bool.eq_iff_iff]; simp [usesN]; omega) | (unfold usesN; simp; omega) | (unfold usesN; (repeat' split) <;> first | rfl | omega | simp_all)))
                    · have g11 := h11; try simp at h11
                      refine j_seq ?_
                      refine j_region ?_
                      refine jg_adr _ rfl _ rfl rfl (op_eql (.base rfl) (.base rfl)) ?_
                      refine jg_adr _ rfl _ rfl rfl (op_assign (.base rfl)) ?_
                      refine jg_nil ?_
                      refine jn_keep [3, 4] [] (.cons rfl (.cons rfl .nil)) .nil ?_
                      refine jn_seq ?_
                      refine j_cond rfl (fun h12 => ?_) (fun h12 => ?_)
                      · have g12 := h12; try simp at h12
                        refine j_skip (jn_seq ?_)
                        refine j_cond_t rfl g12 (j_seq ?_)
                        refine j_region ?_
                        refine jg_adr _ rfl _ rfl rfl (op_assign (.base rfl)) ?_
                        refine jg_nil ?_
                        refine jn_keep [2] [] (.cons rfl .nil) .nil ?_
                        refine jn_seq (j_ret (jr_blk (jr_seq ?_)))
                        exact jr_fin1 Tryz.results28 (res_tmp rfl) rfl (rb (by subst_vars; first | rfl | (simp [usesN]; done) | (simp [usesN, *]; done) | (rw [Bool.eq_iff_iff]; simp [usesN, *]; omega) | (rw [Bool.eq_iff_iff]; simp [usesN]; omega) | (unfold usesN; simp; omega) | (unfold usesN; (repeat' split) <;> first | rfl | omega | simp_all)))
                      · have g12 := h12; try simp at h12
                        refine j_seq ?_
                        refine j_region ?_
                        refine jg_adr _ rfl _ rfl rfl (op_eql (.base rfl) (.base rfl)) ?_
                        refine jg_adr _ rfl _ rfl rfl (op_assign (.base rfl)) ?_
                        refine jg_nil ?_
                        refine jn_keep [3, 4] [] (.cons rfl (.cons rfl .nil)) .nil ?_
                        refine jn_seq ?_
                        refine j_cond rfl (fun h13 => ?_) (fun h13 => ?_)
                        · have g13 := h13; try simp at h13
                          refine j_skip (jn_seq ?_)
                          refine j_cond_t rfl g13 (j_seq ?_)
                          refine j_region ?_
                          refine jg_adr _ rfl _ rfl rfl (op_assign (.base rfl)) ?_
                          refine jg_nil ?_
                          refine jn_keep [2] [] (.cons rfl .nil) .nil ?_
                          refine jn_seq (j_ret (jr_blk (jr_seq ?_)))
                          exact jr_fin1 Tryz.results28 (res_tmp rfl) rfl (rb (by subst_vars; first | rfl | (simp [usesN]; done) | (simp [usesN, *]; done) | (rw [Bool.eq_iff_iff]; simp [usesN, *]; omega) | (rw [Bool.eq_iff_iff]; simp [usesN]; omega) | (unfold usesN; simp; omega) | (unfold usesN; (repeat' split) <;> first | rfl | omega | simp_all)))
                        · have g13 := h13; try simp at h13
                          refine j_seq ?_
                          refine j_region ?_
                          refine jg_adr _ rfl _ rfl rfl (op_eql (.base rfl) (.base rfl)) ?_
                          refine jg_adr _ rfl _ rfl rfl (op_assign (.base rfl)) ?_
                          refine jg_nil ?_
                          refine jn_keep [3, 4] [] (.cons rfl (.cons rfl .nil)) .nil ?_
                          refine jn_seq ?_
                          refine j_cond rfl (fun h14 => ?_) (fun h14 => ?_)
                          · have g14 := h14; try simp at h14
                            refine j_skip (jn_seq ?_)
                            refine j_cond_t rfl g14 (j_seq ?_)
                            refine j_region ?_
                            refine jg_adr _ rfl _ rfl rfl (op_assign (.base rfl)) ?_
                            refine jg_nil ?_
                            refine jn_keep [2] [] (.cons rfl .nil) .nil ?_
                            refine jn_seq (j_ret (jr_blk (jr_seq ?_)))
                            exact jr_fin1 Tryz.results28 (res_tmp rfl) rfl (rb (by subst_vars; first | rfl | (simp [usesN]; done) | (simp [usesN, *]; done) | (rw [Bool.eq_iff_iff]; simp [usesN, *]; omega) | (rw [Bool.eq_iff_iff]; simp [usesN]; omega) | (unfold usesN; simp; omega) | (unfold usesN; (repeat' split) <;> first | rfl | omega | simp_all)))
                          · have g14 := h14; try simp at h14
                            refine j_seq ?_
                            refine j_region ?_
                            refine jg_adr _ rfl _ rfl rfl (op_eql (.base rfl) (.base rfl)) ?_
                            refine jg_adr _ rfl _ rfl rfl (op_assign (.base rfl)) ?_
                            refine jg_nil ?_
                            refine jn_keep [3, 4] [] (.cons rfl (.cons rfl .nil)) .nil ?_
                            refine jn_seq ?_
                            refine j_cond rfl (fun h15 => ?_) (fun h15 => ?_)
                            · have g15 := h15; try simp at h15
                              refine j_skip (jn_seq ?_)
                              refine j_cond_t rfl g15 (j_seq ?_)
                              refine j_region ?_
                              refine jg_adr _ rfl _ rfl rfl (op_assign (.base rfl)) ?_
                              refine jg_nil ?_
                              refine jn_keep [2] [] (.cons rfl .nil) .nil ?_
                              refine jn_seq (j_ret (jr_blk (jr_seq ?_)))
                              exact jr_fin1 Tryz.results28 (res_tmp rfl) rfl (rb (by subst_vars; first | rfl | (simp [usesN]; done) | (simp [usesN, *]; done) | (rw [Bool.eq_iff_iff]; simp [usesN, *]; omega) | (rw [Bool.eq_iff_iff]; simp [usesN]; omega) | (unfold usesN; simp; omega) | (unfold usesN; (repeat' split) <;> first | rfl | omega | simp_all)))
                            · have g15 := h15; try simp at h15
                              refine j_seq ?_
                              refine j_region ?_
                              refine jg_adr _ rfl _ rfl rfl (op_eql (.base rfl) (.base rfl)) ?_
                              refine jg_adr _ rfl _ rfl rfl (op_assign (.base rfl)) ?_
                              refine jg_nil ?_
                              refine jn_keep [3, 4] [] (.cons rfl (.cons rfl .nil)) .nil ?_
                              refine jn_seq ?_
                              refine j_cond rfl (fun h16 => ?_) (fun h16 => ?_)
                              · have g16 := h16; try simp at h16
                                refine j_skip (jn_seq ?_)
                                refine j_cond_t rfl g16 (j_seq ?_)
                                refine j_region ?_
                                refine jg_adr _ rfl _ rfl rfl (op_assign (.base rfl)) ?_
                                refine jg_nil ?_
                                refine jn_keep [2] [] (.cons rfl .nil) .nil ?_
                                refine jn_seq (j_ret (jr_blk (jr_seq ?_)))
                                exact jr_fin1 Tryz.results28 (res_tmp rfl) rfl (rb (by subst_vars; first | rfl | (simp [usesN]; done) | (simp [usesN, *]; done) | (rw [Bool.eq_iff_iff]; simp [usesN, *]; omega) | (rw [Bool.eq_iff_iff]; simp [usesN]; omega) | (unfold usesN; simp; omega) | (unfold usesN; (repeat' split) <;> first | rfl | omega | simp_all)))
                              · have g16 := h16; try simp at h16
                                refine j_seq ?_
                                refine j_region ?_
                                refine jg_adr _ rfl _ rfl rfl (op_eql (.base rfl) (.base rfl)) ?_
                                refine jg_adr _ rfl _ rfl rfl (op_assign (.base rfl)) ?_
                                refine jg_nil ?_
                                refine jn_keep [3, 4] [] (.cons rfl (.cons rfl .nil)) .nil ?_
                                refine jn_seq ?_
                                refine j_cond rfl (fun h17 => ?_) (fun h17 => ?_)
                                · have g17 := h17; try simp at h17
                                  refine j_skip (jn_seq ?_)
                                  refine j_cond_t rfl g17 (j_seq ?_)
                                  refine j_region ?_
                                  refine jg_adr _ rfl _ rfl rfl (op_assign (.base rfl)) ?_
                                  refine jg_nil ?_
                                  refine jn_keep [2] [] (.cons rfl .nil) .nil ?_
                                  refine jn_seq (j_ret (jr_blk (jr_seq ?_)))
                                  exact jr_fin1 Tryz.results28 (res_tmp rfl) rfl (rb (by subst_vars; first | rfl | (simp [usesN]; done) | (simp [usesN, *]; done) | (rw [Bool.eq_iff_iff]; simp [usesN, *]; omega) | (rw [Bool.eq_iff_iff]; simp [usesN]; omega) | (unfold usesN; simp; omega) | (unfold usesN; (repeat' split) <;> first | rfl | omega | simp_all)))
                                · have g17 := h17; try simp at h17
                                  refine j_region ?_
                                  refine jg_adr _ rfl _ rfl rfl (op_eql (.base rfl) (.base rfl)) ?_
                                  refine jg_adr _ rfl _ rfl rfl (op_assign (.base rfl)) ?_
                                  refine jg_nil ?_
                                  refine jn_keep [4] [] (.cons rfl .nil) .nil ?_
                                  refine jn_seq ?_
                                  refine j_cond rfl (fun h18 => ?_) (fun h18 => ?_)
                                  · have g18 := h18; try simp at h18
                                    refine j_seq ?_
                                    refine j_region ?_
                                    refine jg_adr _ rfl _ rfl rfl (op_assign (.base rfl)) ?_
                                    refine jg_nil ?_
                                    refine jn_keep [2] [] (.cons rfl .nil) .nil ?_
                                    refine jn_seq (j_ret (jr_blk (jr_seq ?_)))
                                    exact jr_fin1 Tryz.results28 (res_tmp rfl) rfl (rb (by subst_vars; first | rfl | (simp [usesN]; done) | (simp [usesN, *]; done) | (rw [Bool.eq_iff_iff]; simp [usesN, *]; omega) | (rw [Bool.eq_iff_iff]; simp [usesN]; omega) | (unfold usesN; simp; omega) | (unfold usesN; (repeat' split) <;> first | rfl | omega | simp_all)))
                                  · have g18 := h18; try simp at h18
                                    refine j_skip (jn_blk (jn_seq (j_seq ?_)))
                                    refine j_region ?_
                                    refine jg_adr _ rfl _ rfl rfl (op_assign (.base rfl)) ?_
                                    refine jg_nil ?_
                                    refine jn_keep [2] [] (.cons rfl .nil) .nil ?_
                                    refine jn_seq (j_ret ?_)
                                    exact jr_fin1 Tryz.results28 (res_tmp rfl) rfl (rb (by subst_vars; first | rfl | (simp [usesN]; done) | (simp [usesN, *]; done) | (rw [Bool.eq_iff_iff]; simp [usesN, *]; omega) | (rw [Bool.eq_iff_iff]; simp [usesN]; omega) | (unfold usesN; simp; omega) | (unfold usesN; (repeat' split) <;> first | rfl | omega | simp_all)))

theorem validMode_ok (op : Int) : Ct Tryz.prog 46 [.raw (.int .i64 op)] (.raw (.bool (validMode op))) := by
  refine ct_intro Tryz.func46 rfl rfl Tryz.ntmps46 rfl rfl ?_
  intro w0 ok0
  refine j_seq ?_
  refine j_region ?_
  refine jg_adr _ rfl _ rfl rfl (op_assign (.base rfl)) ?_
  refine jg_nil ?_
  refine jn_keep [0] [] (.cons rfl .nil) .nil ?_
  refine jn_seq (j_seq ?_)
  refine j_region ?_
  refine jg_adr _ rfl _ rfl rfl (op_move (.base rfl)) ?_
  refine jg_adr _ rfl _ rfl rfl (op_geq (.base rfl) (.base rfl)) ?_
  refine jg_adr _ rfl _ rfl rfl (op_move (.base rfl)) ?_
  refine jg_gd _ _ _ _ _ _ rfl rfl rfl rfl rfl (fun hg => op_move (.base rfl)) ?_
  refine jg_gd _ _ _ _ _ _ rfl rfl rfl rfl rfl (fun hg => op_leq (.gd rfl hg) (.base rfl)) ?_
  refine jg_adr _ rfl _ rfl rfl (op_pick_and (.base rfl) (.base rfl) rfl (by intro h; first | (rw [h]; rfl) | (rw [hg, h]; rfl) | (rw [h, hg]; rfl) | simp_all)) ?_
  refine jg_adr _ rfl _ rfl rfl (op_assign (.base rfl)) ?_
  refine jg_nil ?_
  refine jn_keep [2] [] (.cons rfl .nil) .nil ?_
  refine jn_seq (j_ret ?_)
  exact jr_fin1 Tryz.results46 (res_tmp rfl) rfl (rb (by subst_vars; first | rfl | (simp [validMode]; done) | (simp [validMode, *]; done) | (rw [Bool.eq_iff_iff]; simp [validMode, *]; omega) | (rw [Bool.eq_iff_iff]; simp [validMode]; omega) | (unfold validMode; simp; omega) | (unfold validMode; (repeat' split) <;> first | rfl | omega | simp_all)))

theorem isNumber_ok (op : Int) : Ct Tryz.prog 68 [.raw (.int .i64 op)] (.raw (.bool (isNumber op))) := by
  refine ct_intro Tryz.func68 rfl rfl Tryz.ntmps68 rfl rfl ?_
  intro w0 ok0
  refine j_seq ?_
  refine j_region ?_
  refine jg_adr _ rfl _ rfl rfl (op_assign (.base rfl)) ?_
  refine jg_nil ?_
  refine jn_keep [0] [] (.cons rfl .nil) .nil ?_
  refine jn_seq (j_seq ?_)
  refine j_region ?_
  refine jg_adr _ rfl _ rfl rfl (op_move (.base rfl)) ?_
  refine jg_adr _ rfl _ rfl rfl (op_eql (.base rfl) (.base rfl)) ?_
  refine jg_adr _ rfl _ rfl rfl (op_move (.base rfl)) ?_
  refine jg_gd _ _ _ _ _ _ rfl rfl rfl rfl rfl (fun hg => op_move (.base rfl)) ?_
  refine jg_gd _ _ _ _ _ _ rfl rfl rfl rfl rfl (fun hg => op_eql (.gd rfl hg) (.base rfl)) ?_
  refine jg_adr _ rfl _ rfl rfl (op_pick_or (.base rfl) (.base rfl) rfl (by intro h; first | (rw [h]; rfl) | (rw [hg, h]; rfl) | (rw [h, hg]; rfl) | simp_all)) ?_
  refine jg_adr _ rfl _ rfl rfl (op_move (.base rfl)) ?_
  refine jg_gd _ _ _ _ _ _ rfl rfl rfl rfl rfl (fun hg => op_move (.base rfl)) ?_
  refine jg_gd _ _ _ _ _ _ rfl rfl rfl rfl rfl (fun hg => op_eql (.gd rfl hg) (.base rfl)) ?_
  refine jg_adr _ rfl _ rfl rfl (op_pick_or (.base rfl) (.base rfl) rfl (by intro h; first | (rw [h]; rfl) | (rw [hg, h]; rfl) | (rw [h, hg]; rfl) | simp_all)) ?_
  refine jg_adr _ rfl _ rfl rfl (op_assign (.base rfl)) ?_
  refine jg_nil ?_
  refine jn_keep [2] [] (.cons rfl .nil) .nil ?_
  refine jn_seq (j_ret ?_)
  exact jr_fin1 Tryz.results68 (res_tmp rfl) rfl (rb (by subst_vars; first | rfl | (simp [isNumber]; done) | (simp [isNumber, *]; done) | (rw [Bool.eq_iff_iff]; simp [isNumber, *]; omega) | (rw [Bool.eq_iff_iff]; simp [isNumber]; omega) | (unfold isNumber; simp; omega) | (unfold isNumber; (repeat' split) <;> first | rfl | omega | simp_all)))

theorem validType_ok (t : TType) (en : List TEnum) : Ct Tryz.prog 20 [.tv rType t, .tv (rSlice rEnum) en] (.raw (.bool (validType t en))) := by
  refine ct_intro Tryz.func20 rfl rfl Tryz.ntmps20 rfl rfl ?_
  intro w0 ok0
  refine j_len 1 rfl (fun hl0 => ?_)
  refine j_seq ?_
  refine j_region ?_
  refine jg_os _ rfl (op_box (.tv (.base rfl)) rfl rfl rfl) ?_
  refine jg_adr _ rfl _ rfl rfl (op_assign (.base rfl)) ?_
  refine jg_nil ?_
  refine jn_keep [1, 2] [2] (.cons rfl (.cons rfl .nil)) (.cons rfl .nil) ?_
  refine jn_seq (j_seq (j_seq ?_))
  refine j_region ?_
  refine jg_adr _ rfl _ rfl rfl (op_ofield fld37_0 (.base rfl)) ?_
  refine jg_adr _ rfl _ rfl rfl (op_oload ty3 (.base rfl) rfl rfl ln37_0) ?_
  refine jg_nil ?_
  refine jn_keep [1, 2, 6] [2] (.cons rfl (.cons rfl (.cons rfl .nil))) (.cons rfl .nil) ?_
  refine jn_seq (j_block (j_seq (j_seq ?_)))
  refine j_region ?_
  refine jg_adr _ rfl _ rfl rfl (op_eql (.base rfl) (.base rfl)) ?_
  refine jg_adr _ rfl _ rfl rfl (op_assign (.base rfl)) ?_
  refine jg_nil ?_
  refine jn_keep [1, 2, 6, 7] [2] (.cons rfl (.cons rfl (.cons rfl (.cons rfl .nil)))) (.cons rfl .nil) ?_
  refine jn_seq ?_
  refine j_cond rfl (fun h2 => ?_) (fun h2 => ?_)
  · have g2 := h2; try simp at h2
    refine j_skip (jn_seq ?_)
    refine j_cond_t rfl g2 (j_seq ?_)
    refine j_region ?_
    refine jg_adr _ rfl _ rfl rfl (op_ofield fld37_1 (.base rfl)) ?_
    refine jg_adr _ rfl _ rfl rfl (op_oload ty3 (.base rfl) rfl rfl ln37_1) ?_
    refine jg_adr _ rfl _ rfl rfl (op_eql (.base rfl) (.base rfl)) ?_
    refine jg_adr _ rfl _ rfl rfl (op_assign (.base rfl)) ?_
    refine jg_nil ?_
    refine jn_keep [4] [] (.cons rfl .nil) .nil ?_
    refine jn_seq (j_ret (jr_blk (jr_seq ?_)))
    exact jr_fin1 Tryz.results20 (res_tmp rfl) rfl (rb (by subst_vars; first | rfl | (simp [validType]; done) | (simp [validType, *]; done) | (rw [Bool.eq_iff_iff]; simp [validType, *]; omega) | (rw [Bool.eq_iff_iff]; simp [validType]; omega) | (unfold validType; simp; omega) | (unfold validType; (repeat' split) <;> first | rfl | omega | simp_all)))
  · have g2 := h2; try simp at h2
    refine j_seq ?_
    refine j_region ?_
    refine jg_adr _ rfl _ rfl rfl (op_eql (.base rfl) (.base rfl)) ?_
    refine jg_adr _ rfl _ rfl rfl (op_assign (.base rfl)) ?_
    refine jg_nil ?_
    refine jn_keep [1, 2, 6, 7] [2] (.cons rfl (.cons rfl (.cons rfl (.cons rfl .nil)))) (.cons rfl .nil) ?_
    refine jn_seq ?_
    refine j_cond rfl (fun h3 => ?_) (fun h3 => ?_)
    · have g3 := h3; try simp at h3
      refine j_skip (jn_seq ?_)
      refine j_cond_t rfl g3 (j_seq ?_)
      refine j_region ?_
      refine jg_adr _ rfl _ rfl rfl (op_ofield fld37_1 (.base rfl)) ?_
      refine jg_adr _ rfl _ rfl rfl (op_oload ty3 (.base rfl) rfl rfl ln37_1) ?_
      refine jg_adr _ rfl _ rfl rfl (op_eql (.base rfl) (.base rfl)) ?_
      refine jg_adr _ rfl _ rfl rfl (op_assign (.base rfl)) ?_
      refine jg_nil ?_
      refine jn_keep [4] [] (.cons rfl .nil) .nil ?_
      refine jn_seq (j_ret (jr_blk (jr_seq ?_)))
      exact jr_fin1 Tryz.results20 (res_tmp rfl) rfl (rb (by subst_vars; first | rfl | (simp [validType]; done) | (simp [validType, *]; done) | (rw [Bool.eq_iff_iff]; simp [validType, *]; omega) | (rw [Bool.eq_iff_iff]; simp [validType]; omega) | (unfold validType; simp; omega) | (unfold validType; (repeat' split) <;> first | rfl | omega | simp_all)))
    · have g3 := h3; try simp at h3
      refine j_seq ?_
      refine j_region ?_
      refine jg_adr _ rfl _ rfl rfl (op_eql (.base rfl) (.base rfl)) ?_
      refine jg_adr _ rfl _ rfl rfl (op_assign (.base rfl)) ?_
      refine jg_nil ?_
      refine jn_keep [1, 2, 6, 7] [2] (.cons rfl (.cons rfl (.cons rfl (.cons rfl .nil)))) (.cons rfl .nil) ?_
      refine jn_seq ?_
      refine j_cond rfl (fun h4 => ?_) (fun h4 => ?_)
      · have g4 := h4; try simp at h4
        refine j_skip (jn_seq ?_)
        refine j_cond_t rfl g4 (j_seq ?_)
        refine j_region ?_
        refine jg_adr _ rfl _ rfl rfl (op_ofield fld37_1 (.base rfl)) ?_
        refine jg_adr _ rfl _ rfl rfl (op_oload ty3 (.base rfl) rfl rfl ln37_1) ?_
        refine jg_adr _ rfl _ rfl rfl (op_eql (.base rfl) (.base rfl)) ?_
        refine jg_adr _ rfl _ rfl rfl (op_assign (.base rfl)) ?_
        refine jg_nil ?_
        refine jn_keep [4] [] (.cons rfl .nil) .nil ?_
        refine jn_seq (j_ret (jr_blk (jr_seq ?_)))
        exact jr_fin1 Tryz.results20 (res_tmp rfl) rfl (rb (by subst_vars; first | rfl | (simp [validType]; done) | (simp [validType, *]; done) | (rw [Bool.eq_iff_iff]; simp [validType, *]; omega) | (rw [Bool.eq_iff_iff]; simp [validType]; omega) | (unfold validType; simp; omega) | (unfold validType; (repeat' split) <;> first | rfl | omega | simp_all)))
      · have g4 := h4; try simp at h4
        refine j_seq ?_
        refine j_region ?_
        refine jg_adr _ rfl _ rfl rfl (op_eql (.base rfl) (.base rfl)) ?_
        refine jg_adr _ rfl _ rfl rfl (op_assign (.base rfl)) ?_
        refine jg_nil ?_
        refine jn_keep [1, 2, 6, 7] [2] (.cons rfl (.cons rfl (.cons rfl (.cons rfl .nil)))) (.cons rfl .nil) ?_
        refine jn_seq ?_
        refine j_cond rfl (fun h5 => ?_) (fun h5 => ?_)
        · have g5 := h5; try simp at h5
          refine j_skip (jn_seq ?_)
          refine j_cond_t rfl g5 (j_seq ?_)
          refine j_region ?_
          refine jg_adr _ rfl _ rfl rfl (op_ofield fld37_1 (.base rfl)) ?_
          refine jg_adr _ rfl _ rfl rfl (op_oload ty3 (.base rfl) rfl rfl ln37_1) ?_
          refine jg_adr _ rfl _ rfl rfl (op_eql (.base rfl) (.base rfl)) ?_
          refine jg_adr _ rfl _ rfl rfl (op_assign (.base rfl)) ?_
          refine jg_nil ?_
          refine jn_keep [4] [] (.cons rfl .nil) .nil ?_
          refine jn_seq (j_ret (jr_blk (jr_seq ?_)))
          exact jr_fin1 Tryz.results20 (res_tmp rfl) rfl (rb (by subst_vars; first | rfl | (simp [validType]; done) | (simp [validType, *]; done) | (rw [Bool.eq_iff_iff]; simp [validType, *]; omega) | (rw [Bool.eq_iff_iff]; simp [validType]; omega) | (unfold validType; simp; omega) | (unfold validType; (repeat' split) <;> first | rfl | omega | simp_all)))
        · have g5 := h5; try simp at h5
          refine j_region ?_
          refine jg_adr _ rfl _ rfl rfl (op_eql (.base rfl) (.base rfl)) ?_
          refine jg_adr _ rfl _ rfl rfl (op_assign (.base rfl)) ?_
          refine jg_nil ?_
          refine jn_keep [1, 2, 6, 7] [2] (.cons rfl (.cons rfl (.cons rfl (.cons rfl .nil)))) (.cons rfl .nil) ?_
          refine jn_seq ?_
          refine j_cond rfl (fun h6 => ?_) (fun h6 => ?_)
          · have g6 := h6; try simp at h6
            refine j_seq ?_
            refine j_region ?_
            refine jg_adr _ rfl _ rfl rfl (op_ofield fld37_1 (.base rfl)) ?_
            refine jg_adr _ rfl _ rfl rfl (op_oload ty3 (.base rfl) rfl rfl ln37_1) ?_
            refine jg_adr _ rfl _ rfl rfl (op_eql (.base rfl) (.base rfl)) ?_
            refine jg_adr _ rfl _ rfl rfl (op_assign (.base rfl)) ?_
            refine jg_nil ?_
            refine jn_keep [4] [] (.cons rfl .nil) .nil ?_
            refine jn_seq (j_ret (jr_blk (jr_seq ?_)))
            exact jr_fin1 Tryz.results20 (res_tmp rfl) rfl (rb (by subst_vars; first | rfl | (simp [validType]; done) | (simp [validType, *]; done) | (rw [Bool.eq_iff_iff]; simp [validType, *]; omega) | (rw [Bool.eq_iff_iff]; simp [validType]; omega) | (unfold validType; simp; omega) | (unfold validType; (repeat' split) <;> first | rfl | omega | simp_all)))
          · have g6 := h6; try simp at h6
            refine j_seq ?_
            refine j_region ?_
            refine jg_adr _ rfl _ rfl rfl (op_eql (.base rfl) (.base rfl)) ?_
            refine jg_adr _ rfl _ rfl rfl (op_assign (.base rfl)) ?_
            refine jg_nil ?_
            refine jn_keep [1, 2, 16] [2] (.cons rfl (.cons rfl (.cons rfl .nil))) (.cons rfl .nil) ?_
            refine jn_seq ?_
            refine j_cond rfl (fun h8 => ?_) (fun h8 => ?_)
            · try simp at h8
              refine j_seq ?_
              refine j_region ?_
              refine jg_adr _ rfl _ rfl rfl (op_ofield fld37_1 (.base rfl)) ?_
              refine jg_adr _ rfl _ rfl rfl (op_oload ty3 (.base rfl) rfl rfl ln37_1) ?_
              refine jg_adr _ rfl _ rfl rfl (op_geq (.base rfl) (.base rfl)) ?_
              refine jg_adr _ rfl _ rfl rfl (op_move (.base rfl)) ?_
              refine jg_gd _ _ _ _ _ _ rfl rfl rfl rfl rfl (fun hg => op_ofield fld37_1 (.base rfl)) ?_
              refine jg_gd _ _ _ _ _ _ rfl rfl rfl rfl rfl (fun hg => op_oload ty3 (.gd rfl hg) rfl rfl ln37_1) ?_
              refine jg_gd _ _ _ _ _ _ rfl rfl rfl rfl rfl (fun hg => op_move (.base rfl)) ?_
              refine jg_gd _ _ _ _ _ _ rfl rfl rfl rfl rfl (fun hg => op_len Tryz.underlying23 (.gd rfl hg)) ?_
              refine jg_gd _ _ _ _ _ _ rfl rfl rfl rfl rfl (fun hg => op_lss (.gd rfl hg) (.gd rfl hg)) ?_
              refine jg_adr _ rfl _ rfl rfl (op_pick_and (.base rfl) (.base rfl) rfl (by intro h; first | (rw [h]; rfl) | (rw [hg, h]; rfl) | (rw [h, hg]; rfl) | simp_all)) ?_
              refine jg_adr _ rfl _ rfl rfl (op_assign (.base rfl)) ?_
              refine jg_nil ?_
              refine jn_keep [4] [] (.cons rfl .nil) .nil ?_
              refine jn_seq (j_ret (jr_blk (jr_seq ?_)))
              exact jr_fin1 Tryz.results20 (res_tmp rfl) rfl (rb (by subst_vars; first | rfl | (simp [validType]; done) | (simp [validType, *]; done) | (rw [Bool.eq_iff_iff]; simp [validType, *]; omega) | (rw [Bool.eq_iff_iff]; simp [validType]; omega) | (unfold validType; simp; omega) | (unfold validType; (repeat' split) <;> first | rfl | omega | simp_all)))
            · try simp at h8
              refine j_skip (jn_blk (jn_seq (j_seq ?_)))
              refine j_region ?_
              refine jg_adr _ rfl _ rfl rfl (op_assign (.base rfl)) ?_
              refine jg_nil ?_
              refine jn_keep [4] [] (.cons rfl .nil) .nil ?_
              refine jn_seq (j_ret ?_)
              exact jr_fin1 Tryz.results20 (res_tmp rfl) rfl (rb (by subst_vars; first | rfl | (simp [validType]; done) | (simp [validType, *]; done) | (rw [Bool.eq_iff_iff]; simp [validType, *]; omega) | (rw [Bool.eq_iff_iff]; simp [validType]; omega) | (unfold validType; simp; omega) | (unfold validType; (repeat' split) <;> first | rfl | omega | simp_all)))

theorem starts_ok (e : List TNode) : Ct Tryz.prog 24 [.tv (rSlice rNode) e] (sv2 ((structF e).1, (structF e).2.2)) := by
  refine ct_intro Tryz.func24 rfl rfl Tryz.ntmps24 rfl rfl ?_
  intro w0 ok0
  refine j_seq ?_
  refine j_region ?_
  refine jg_adr _ rfl _ rfl rfl (op_assign (.base rfl)) ?_
  refine jg_adr _ rfl _ rfl rfl (op_assign (.base rfl)) ?_
  refine jg_nil ?_
  refine jn_keep [0] [] (.cons rfl .nil) .nil ?_
  refine jn_seq (j_seq ?_)
  refine j_region ?_
  refine jg_adr _ rfl _ rfl rfl (op_move (.base rfl)) ?_
  refine jg_adr _ rfl _ rfl rfl (op_call (structure_ok e) (.cons (.base rfl) .nil) rfl rfl) ?_
  refine jg_adr _ rfl _ rfl rfl (op_move (.base rfl)) ?_
  refine jg_adr _ rfl _ rfl rfl (op_ext30 (.base rfl)) ?_
  refine jg_adr _ rfl _ rfl rfl (op_ext31 (.base rfl)) ?_
  refine jg_adr _ rfl _ rfl rfl (op_ext32 (.base rfl)) ?_
  refine jg_adr _ rfl _ rfl rfl (op_assign (.base rfl)) ?_
  refine jg_adr _ rfl _ rfl rfl (op_assign (.base rfl)) ?_
  refine jg_adr _ rfl _ rfl rfl (op_assign (.base rfl)) ?_
  refine jg_nil ?_
  refine jn_keep [4, 6] [] (.cons rfl (.cons rfl .nil)) .nil ?_
  refine jn_seq (j_seq ?_)
  refine j_region ?_
  refine jg_adr _ rfl _ rfl rfl (op_move (.base rfl)) ?_
  refine jg_adr _ rfl _ rfl rfl (op_move (.base rfl)) ?_
  refine jg_adr _ rfl _ rfl rfl (op_assign (.base rfl)) ?_
  refine jg_adr _ rfl _ rfl rfl (op_assign (.base rfl)) ?_
  refine jg_nil ?_
  refine jn_keep [2, 3] [] (.cons rfl (.cons rfl .nil)) .nil ?_
  refine jn_seq (j_ret ?_)
  exact jr_fin2 Tryz.results24 (res_tmp rfl) (res_tmp rfl) ⟨rfl, rfl⟩ rfl

end Go.Proofs.YtgoggdaohdablaaGreat
