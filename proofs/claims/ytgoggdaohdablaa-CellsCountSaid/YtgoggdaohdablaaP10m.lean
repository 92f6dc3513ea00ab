import Derived.Test.YtgoggdaohdablaaP10l
import Derived.Test.YtgoggdaohdablaaEng12
namespace Go.Proofs.Ytgoggdaohdablaa
open Go.Eng
set_option maxRecDepth 100000
set_option maxHeartbeats 4000000
set_option linter.unusedVariables false
set_option linter.unusedSimpArgs false


def leafT (d : TNode) (s : TSignature) : TType :=
  if d.1 = 6 then (6, d.2 / 16) else if d.1 = 7 then nthT s.2.2.1 d.2 else if d.1 = 8 then nthT s.2.2.2.1 d.2 else if d.1 = 9 then (5, 0) else if d.1 = 35 then (2, 0)
  else if 36 ≤ d.1 ∧ d.1 ≤ 39 then nthT s.2.2.2.2.1 d.2 else (d.1, 0)
def leafOk (op k : Int) (ok : Bool) : Bool := if op = 36 then ok && (k == 2 || k == 3) else if op = 37 ∨ op = 38 then ok && k == 1 else if op = 39 then ok && (isNumber k || k == 5) else ok

theorem found_ok (d : TNode) (s : TSignature) (hn : d.2 ≤ 9223372036854775807) (h34 : d.1 = 6 ∨ d.1 = 34 → 0 ≤ d.2) : Ct Try.prog 57 [.tv rNode d, .tv rSignature s] (.raw (.bool (found d s))) := by
  refine ct_intro Try.func57 rfl rfl Try.ntmps57 rfl rfl ?_
  intro w0 ok0
  refine j_seq ?_
  refine j_region ?_
  refine jg_os _ rfl (op_box (.tv (.base rfl)) rfl rfl rfl) ?_
  refine jg_os _ rfl (op_box (.tv (.base rfl)) rfl rfl rfl) ?_
  refine jg_adr _ rfl _ rfl rfl (op_assign (.base rfl)) ?_
  refine jg_nil ?_
  refine jn_keep [2, 3] [2, 3] (.cons rfl (.cons rfl .nil)) (.cons rfl (.cons rfl .nil)) ?_
  refine jn_seq (j_seq (j_seq ?_))
  refine j_region ?_
  refine jg_adr _ rfl _ rfl rfl (op_ofield fld50_0 (.base rfl)) ?_
  refine jg_adr _ rfl _ rfl rfl (op_oload ty3 (.base rfl) rfl rfl ln50_0) ?_
  refine jg_nil ?_
  refine jn_keep [2, 3, 6] [2, 3] (.cons rfl (.cons rfl (.cons rfl .nil))) (.cons rfl (.cons rfl .nil)) ?_
  refine jn_seq (j_block (j_seq ?_))
  refine j_region ?_
  refine jg_adr _ rfl _ rfl rfl (op_eql (.base rfl) (.base rfl)) ?_
  refine jg_adr _ rfl _ rfl rfl (op_assign (.base rfl)) ?_
  refine jg_nil ?_
  refine jn_keep [2, 3, 6, 7] [2, 3] (.cons rfl (.cons rfl (.cons rfl (.cons rfl .nil)))) (.cons rfl (.cons rfl .nil)) ?_
  refine jn_seq ?_
  refine j_cond rfl (fun h2 => ?_) (fun h2 => ?_)
  · try simp at h2
    refine j_seq ?_
    have hq0 : 0 ≤ d.2 / 16 := Int.ediv_nonneg (h34 (by simp_all)) (by omega)
    refine j_draw mo (by kernel_rfl) (
      AS.cons _ _ rfl (ga_adr rfl rfl rfl (op_ofield fld50_1 (.base rfl))) (
        AS.cons _ _ rfl (ga_adr rfl rfl rfl (op_oload ty3 (.base rfl) rfl rfl ln50_1)) (
        AS.cons _ _ rfl (ga_adr rfl rfl rfl (op_quo (.base rfl) (.base rfl) (by omega) (quo64 (h34 (by simp_all)) hn (by omega)))) (
        AS.cons _ _ rfl (ga_adr rfl rfl rfl (op_ofield fld27_0 (.base rfl))) (
        AS.cons _ _ rfl (ga_adr rfl rfl rfl (op_oload ty23 (.base rfl) rfl rfl ln27_0)) (
        AS.cons _ _ rfl (ga_adr rfl rfl rfl (op_len Try.underlying23 (.base rfl))) (
        AS.cons _ _ rfl (ga_adr rfl rfl rfl (op_lss (.base rfl) (.base rfl))) (
        AS.cons _ _ rfl (ga_adr rfl rfl rfl (op_move (.base rfl))) (
        AS.cons _ _ rfl (ga_gd _ _ _ _ rfl rfl rfl rfl rfl (fun hg => op_ofield fld50_1 (.base rfl))) (
        AS.cons _ _ rfl (ga_gd _ _ _ _ rfl rfl rfl rfl rfl (fun hg => op_oload ty3 (.gd rfl hg) rfl rfl ln50_1)) (
        AS.cons _ _ rfl (ga_gd _ _ _ _ rfl rfl rfl rfl rfl (fun hg => op_rem_e (.gd rfl hg) (.base rfl) (by omega) (rem64 (h34 (by simp_all))))) (
        AS.cons _ _ rfl (ga_gd _ _ _ _ rfl rfl rfl rfl rfl (fun hg => op_ofield fld27_0 (.base rfl))) (
        AS.cons _ _ rfl (ga_gd _ _ _ _ rfl rfl rfl rfl rfl (fun hg => op_oload ty23 (.gd rfl hg) rfl rfl ln27_0)) (
        AS.cons _ _ rfl (ga_gd _ _ _ _ rfl rfl rfl rfl rfl (fun hg => op_ofield fld50_1 (.base rfl))) (
        AS.cons _ _ rfl (ga_gd _ _ _ _ rfl rfl rfl rfl rfl (fun hg => op_oload ty3 (.gd rfl hg) rfl rfl ln50_1)) (
        AS.cons _ _ rfl (ga_gd _ _ _ _ rfl rfl rfl rfl rfl (fun hg => op_quo (.gd rfl hg) (.base rfl) (by omega) (quo64 (h34 (by simp_all)) hn (by omega)))) (
        AS.cons _ _ rfl (ga_gd _ _ _ _ rfl rfl rfl rfl rfl (fun hg => op_index Try.underlying23 ty48 (.gd rfl hg) (.gd rfl hg) (Int.toNat_of_nonneg hq0).symm (getD_some (z := (([], []) : TEnum)) (by first | omega | (simp; done) | (simp; omega) | (simp at hg; omega) | (simp at hg; simp; omega))))) (
        AS.cons _ _ rfl (ga_gd _ _ _ _ rfl rfl rfl rfl rfl (fun hg => op_field fld48_1 ln48_1 (.gd rfl hg))) (
        AS.cons _ _ rfl (ga_gd _ _ _ _ rfl rfl rfl rfl rfl (fun hg => op_load ty46 (.gd rfl hg))) (
        AS.cons _ _ rfl (ga_gd _ _ _ _ rfl rfl rfl rfl rfl (fun hg => op_len Try.underlying46 (.gd rfl hg))) (
        AS.cons _ _ rfl (ga_gd _ _ _ _ rfl rfl rfl rfl rfl (fun hg => op_lss (.gd rfl hg) (.gd rfl hg))) (
        AS.cons _ _ rfl (ga_adr rfl rfl rfl (op_pick_and (.base rfl) (.base rfl) rfl (by intro h; first | (rw [h]; rfl) | simp_all))) (
        AS.cons _ _ rfl (ga_adr rfl rfl rfl (op_assign (.base rfl))) (
        AS.nil)))))))))))))))))))))))) ?_
    refine jn_keep [4] [] (.cons rfl .nil) .nil ?_
    refine jn_seq (j_ret (jr_blk (jr_seq ?_)))
    exact jr_fin1 Try.results57 (res_tmp rfl) rfl (rb (by subst_vars; first | rfl | (simp [found]; done) | (simp [found, *]; done) | (rw [Bool.eq_iff_iff]; simp [found, *]; omega) | (unfold found; (repeat' split) <;> first | rfl | omega | (rw [Bool.eq_iff_iff]; simp; omega) | (simp_all; done) | (simp_all; omega) | (exfalso; omega))))
  · try simp at h2
    refine j_seq ?_
    refine j_region ?_
    refine jg_adr _ rfl _ rfl rfl (op_eql (.base rfl) (.base rfl)) ?_
    refine jg_adr _ rfl _ rfl rfl (op_assign (.base rfl)) ?_
    refine jg_nil ?_
    refine jn_keep [2, 3, 6, 31] [2, 3] (.cons rfl (.cons rfl (.cons rfl (.cons rfl .nil)))) (.cons rfl (.cons rfl .nil)) ?_
    refine jn_seq ?_
    refine j_cond rfl (fun h4 => ?_) (fun h4 => ?_)
    · try simp at h4
      refine j_seq ?_
      refine j_region ?_
      refine jg_adr _ rfl _ rfl rfl (op_ofield fld50_1 (.base rfl)) ?_
      refine jg_adr _ rfl _ rfl rfl (op_oload ty3 (.base rfl) rfl rfl ln50_1) ?_
      refine jg_adr _ rfl _ rfl rfl (op_geq (.base rfl) (.base rfl)) ?_
      refine jg_adr _ rfl _ rfl rfl (op_move (.base rfl)) ?_
      refine jg_gd _ _ _ _ _ _ rfl rfl rfl rfl rfl (fun hg => op_ofield fld50_1 (.base rfl)) ?_
      refine jg_gd _ _ _ _ _ _ rfl rfl rfl rfl rfl (fun hg => op_oload ty3 (.gd rfl hg) rfl rfl ln50_1) ?_
      refine jg_gd _ _ _ _ _ _ rfl rfl rfl rfl rfl (fun hg => op_ofield fld27_2 (.base rfl)) ?_
      refine jg_gd _ _ _ _ _ _ rfl rfl rfl rfl rfl (fun hg => op_oload ty25 (.gd rfl hg) rfl rfl ln27_2) ?_
      refine jg_gd _ _ _ _ _ _ rfl rfl rfl rfl rfl (fun hg => op_len Try.underlying25 (.gd rfl hg)) ?_
      refine jg_gd _ _ _ _ _ _ rfl rfl rfl rfl rfl (fun hg => op_lss (.gd rfl hg) (.gd rfl hg)) ?_
      refine jg_adr _ rfl _ rfl rfl (op_pick_and (.base rfl) (.base rfl) rfl (by intro h; first | (rw [h]; rfl) | simp_all)) ?_
      refine jg_adr _ rfl _ rfl rfl (op_assign (.base rfl)) ?_
      refine jg_nil ?_
      refine jn_keep [4] [] (.cons rfl .nil) .nil ?_
      refine jn_seq (j_ret (jr_blk (jr_seq ?_)))
      exact jr_fin1 Try.results57 (res_tmp rfl) rfl (rb (by subst_vars; first | rfl | (simp [found]; done) | (simp [found, *]; done) | (rw [Bool.eq_iff_iff]; simp [found, *]; omega) | (unfold found; (repeat' split) <;> first | rfl | omega | (rw [Bool.eq_iff_iff]; simp; omega) | (simp_all; done) | (simp_all; omega) | (exfalso; omega))))
    · try simp at h4
      refine j_seq ?_
      refine j_region ?_
      refine jg_adr _ rfl _ rfl rfl (op_eql (.base rfl) (.base rfl)) ?_
      refine jg_adr _ rfl _ rfl rfl (op_assign (.base rfl)) ?_
      refine jg_nil ?_
      refine jn_keep [2, 3, 6, 44] [2, 3] (.cons rfl (.cons rfl (.cons rfl (.cons rfl .nil)))) (.cons rfl (.cons rfl .nil)) ?_
      refine jn_seq ?_
      refine j_cond rfl (fun h6 => ?_) (fun h6 => ?_)
      · try simp at h6
        refine j_seq ?_
        refine j_region ?_
        refine jg_adr _ rfl _ rfl rfl (op_ofield fld50_1 (.base rfl)) ?_
        refine jg_adr _ rfl _ rfl rfl (op_oload ty3 (.base rfl) rfl rfl ln50_1) ?_
        refine jg_adr _ rfl _ rfl rfl (op_geq (.base rfl) (.base rfl)) ?_
        refine jg_adr _ rfl _ rfl rfl (op_move (.base rfl)) ?_
        refine jg_gd _ _ _ _ _ _ rfl rfl rfl rfl rfl (fun hg => op_ofield fld50_1 (.base rfl)) ?_
        refine jg_gd _ _ _ _ _ _ rfl rfl rfl rfl rfl (fun hg => op_oload ty3 (.gd rfl hg) rfl rfl ln50_1) ?_
        refine jg_gd _ _ _ _ _ _ rfl rfl rfl rfl rfl (fun hg => op_ofield fld27_3 (.base rfl)) ?_
        refine jg_gd _ _ _ _ _ _ rfl rfl rfl rfl rfl (fun hg => op_oload ty25 (.gd rfl hg) rfl rfl ln27_3) ?_
        refine jg_gd _ _ _ _ _ _ rfl rfl rfl rfl rfl (fun hg => op_len Try.underlying25 (.gd rfl hg)) ?_
        refine jg_gd _ _ _ _ _ _ rfl rfl rfl rfl rfl (fun hg => op_lss (.gd rfl hg) (.gd rfl hg)) ?_
        refine jg_adr _ rfl _ rfl rfl (op_pick_and (.base rfl) (.base rfl) rfl (by intro h; first | (rw [h]; rfl) | simp_all)) ?_
        refine jg_adr _ rfl _ rfl rfl (op_assign (.base rfl)) ?_
        refine jg_nil ?_
        refine jn_keep [4] [] (.cons rfl .nil) .nil ?_
        refine jn_seq (j_ret (jr_blk (jr_seq ?_)))
        exact jr_fin1 Try.results57 (res_tmp rfl) rfl (rb (by subst_vars; first | rfl | (simp [found]; done) | (simp [found, *]; done) | (rw [Bool.eq_iff_iff]; simp [found, *]; omega) | (unfold found; (repeat' split) <;> first | rfl | omega | (rw [Bool.eq_iff_iff]; simp; omega) | (simp_all; done) | (simp_all; omega) | (exfalso; omega))))
      · try simp at h6
        refine j_seq ?_
        refine j_region ?_
        refine jg_adr _ rfl _ rfl rfl (op_eql (.base rfl) (.base rfl)) ?_
        refine jg_adr _ rfl _ rfl rfl (op_assign (.base rfl)) ?_
        refine jg_nil ?_
        refine jn_keep [2, 3, 6, 57] [2, 3] (.cons rfl (.cons rfl (.cons rfl (.cons rfl .nil)))) (.cons rfl (.cons rfl .nil)) ?_
        refine jn_seq ?_
        refine j_cond rfl (fun h8 => ?_) (fun h8 => ?_)
        · try simp at h8
          refine j_seq ?_
          refine j_region ?_
          refine jg_adr _ rfl _ rfl rfl (op_ofield fld50_1 (.base rfl)) ?_
          refine jg_adr _ rfl _ rfl rfl (op_oload ty3 (.base rfl) rfl rfl ln50_1) ?_
          refine jg_adr _ rfl _ rfl rfl (op_geq (.base rfl) (.base rfl)) ?_
          refine jg_adr _ rfl _ rfl rfl (op_move (.base rfl)) ?_
          refine jg_gd _ _ _ _ _ _ rfl rfl rfl rfl rfl (fun hg => op_ofield fld50_1 (.base rfl)) ?_
          refine jg_gd _ _ _ _ _ _ rfl rfl rfl rfl rfl (fun hg => op_oload ty3 (.gd rfl hg) rfl rfl ln50_1) ?_
          refine jg_gd _ _ _ _ _ _ rfl rfl rfl rfl rfl (fun hg => op_ofield fld27_1 (.base rfl)) ?_
          refine jg_gd _ _ _ _ _ _ rfl rfl rfl rfl rfl (fun hg => op_oload ty24 (.gd rfl hg) rfl rfl ln27_1) ?_
          refine jg_gd _ _ _ _ _ _ rfl rfl rfl rfl rfl (fun hg => op_len Try.underlying24 (.gd rfl hg)) ?_
          refine jg_gd _ _ _ _ _ _ rfl rfl rfl rfl rfl (fun hg => op_lss (.gd rfl hg) (.gd rfl hg)) ?_
          refine jg_adr _ rfl _ rfl rfl (op_pick_and (.base rfl) (.base rfl) rfl (by intro h; first | (rw [h]; rfl) | simp_all)) ?_
          refine jg_adr _ rfl _ rfl rfl (op_assign (.base rfl)) ?_
          refine jg_nil ?_
          refine jn_keep [4] [] (.cons rfl .nil) .nil ?_
          refine jn_seq (j_ret (jr_blk (jr_seq ?_)))
          exact jr_fin1 Try.results57 (res_tmp rfl) rfl (rb (by subst_vars; first | rfl | (simp [found]; done) | (simp [found, *]; done) | (rw [Bool.eq_iff_iff]; simp [found, *]; omega) | (unfold found; (repeat' split) <;> first | rfl | omega | (rw [Bool.eq_iff_iff]; simp; omega) | (simp_all; done) | (simp_all; omega) | (exfalso; omega))))
        · try simp at h8
          refine j_seq ?_
          refine j_region ?_
          refine jg_adr _ rfl _ rfl rfl (op_eql (.base rfl) (.base rfl)) ?_
          refine jg_adr _ rfl _ rfl rfl (op_assign (.base rfl)) ?_
          refine jg_nil ?_
          refine jn_keep [2, 3, 6, 70] [2, 3] (.cons rfl (.cons rfl (.cons rfl (.cons rfl .nil)))) (.cons rfl (.cons rfl .nil)) ?_
          refine jn_seq ?_
          refine j_cond rfl (fun h10 => ?_) (fun h10 => ?_)
          · try simp at h10
            refine j_seq ?_
            refine j_region ?_
            refine jg_adr _ rfl _ rfl rfl (op_ofield fld50_1 (.base rfl)) ?_
            refine jg_adr _ rfl _ rfl rfl (op_oload ty3 (.base rfl) rfl rfl ln50_1) ?_
            refine jg_adr _ rfl _ rfl rfl (op_quo (.base rfl) (.base rfl) (by omega) (quo64 (h34 (by simp_all)) hn (by omega))) ?_
            refine jg_adr _ rfl _ rfl rfl (op_ofield fld27_1 (.base rfl)) ?_
            refine jg_adr _ rfl _ rfl rfl (op_oload ty24 (.base rfl) rfl rfl ln27_1) ?_
            refine jg_adr _ rfl _ rfl rfl (op_len Try.underlying24 (.base rfl)) ?_
            refine jg_adr _ rfl _ rfl rfl (op_lss (.base rfl) (.base rfl)) ?_
            refine jg_adr _ rfl _ rfl rfl (op_assign (.base rfl)) ?_
            refine jg_nil ?_
            refine jn_keep [4] [] (.cons rfl .nil) .nil ?_
            refine jn_seq (j_ret (jr_blk (jr_seq ?_)))
            exact jr_fin1 Try.results57 (res_tmp rfl) rfl (rb (by subst_vars; first | rfl | (simp [found]; done) | (simp [found, *]; done) | (rw [Bool.eq_iff_iff]; simp [found, *]; omega) | (unfold found; (repeat' split) <;> first | rfl | omega | (rw [Bool.eq_iff_iff]; simp; omega) | (simp_all; done) | (simp_all; omega) | (exfalso; omega))))
          · try simp at h10
            refine j_seq ?_
            refine j_region ?_
            refine jg_adr _ rfl _ rfl rfl (op_eql (.base rfl) (.base rfl)) ?_
            refine jg_adr _ rfl _ rfl rfl (op_assign (.base rfl)) ?_
            refine jg_nil ?_
            refine jn_keep [2, 3, 6, 79] [2, 3] (.cons rfl (.cons rfl (.cons rfl (.cons rfl .nil)))) (.cons rfl (.cons rfl .nil)) ?_
            refine jn_seq ?_
            refine j_cond rfl (fun h12 => ?_) (fun h12 => ?_)
            · try simp at h12
              refine j_seq ?_
              refine j_region ?_
              refine jg_adr _ rfl _ rfl rfl (op_ofield fld27_5 (.base rfl)) ?_
              refine jg_adr _ rfl _ rfl rfl (op_oload ty4 (.base rfl) rfl rfl ln27_5) ?_
              refine jg_adr _ rfl _ rfl rfl (op_assign (.base rfl)) ?_
              refine jg_nil ?_
              refine jn_keep [4] [] (.cons rfl .nil) .nil ?_
              refine jn_seq (j_ret (jr_blk (jr_seq ?_)))
              exact jr_fin1 Try.results57 (res_tmp rfl) rfl (rb (by subst_vars; first | rfl | (simp [found]; done) | (simp [found, *]; done) | (rw [Bool.eq_iff_iff]; simp [found, *]; omega) | (unfold found; (repeat' split) <;> first | rfl | omega | (rw [Bool.eq_iff_iff]; simp; omega) | (simp_all; done) | (simp_all; omega) | (exfalso; omega))))
            · try simp at h12
              refine j_seq (j_seq ?_)
              refine j_region ?_
              refine jg_adr _ rfl _ rfl rfl (op_eql (.base rfl) (.base rfl)) ?_
              refine jg_adr _ rfl _ rfl rfl (op_assign (.base rfl)) ?_
              refine jg_nil ?_
              refine jn_keep [2, 3, 6, 83] [2, 3] (.cons rfl (.cons rfl (.cons rfl (.cons rfl .nil)))) (.cons rfl (.cons rfl .nil)) ?_
              refine jn_seq ?_
              refine j_cond rfl (fun h14 => ?_) (fun h14 => ?_)
              · have g14 := h14; try simp at h14
                refine j_skip (jn_seq ?_)
                refine j_cond_t rfl g14 (j_seq ?_)
                refine j_region ?_
                refine jg_adr _ rfl _ rfl rfl (op_ofield fld27_5 (.base rfl)) ?_
                refine jg_adr _ rfl _ rfl rfl (op_oload ty4 (.base rfl) rfl rfl ln27_5) ?_
                refine jg_adr _ rfl _ rfl rfl (op_move (.base rfl)) ?_
                refine jg_gd _ _ _ _ _ _ rfl rfl rfl rfl rfl (fun hg => op_ofield fld50_1 (.base rfl)) ?_
                refine jg_gd _ _ _ _ _ _ rfl rfl rfl rfl rfl (fun hg => op_oload ty3 (.gd rfl hg) rfl rfl ln50_1) ?_
                refine jg_gd _ _ _ _ _ _ rfl rfl rfl rfl rfl (fun hg => op_geq (.gd rfl hg) (.base rfl)) ?_
                refine jg_adr _ rfl _ rfl rfl (op_pick_and (.base rfl) (.base rfl) rfl (by intro h; first | (rw [h]; rfl) | simp_all)) ?_
                refine jg_adr _ rfl _ rfl rfl (op_move (.base rfl)) ?_
                refine jg_gd _ _ _ _ _ _ rfl rfl rfl rfl rfl (fun hg => op_ofield fld50_1 (.base rfl)) ?_
                refine jg_gd _ _ _ _ _ _ rfl rfl rfl rfl rfl (fun hg => op_oload ty3 (.gd rfl hg) rfl rfl ln50_1) ?_
                refine jg_gd _ _ _ _ _ _ rfl rfl rfl rfl rfl (fun hg => op_ofield fld27_4 (.base rfl)) ?_
                refine jg_gd _ _ _ _ _ _ rfl rfl rfl rfl rfl (fun hg => op_oload ty25 (.gd rfl hg) rfl rfl ln27_4) ?_
                refine jg_gd _ _ _ _ _ _ rfl rfl rfl rfl rfl (fun hg => op_len Try.underlying25 (.gd rfl hg)) ?_
                refine jg_gd _ _ _ _ _ _ rfl rfl rfl rfl rfl (fun hg => op_lss (.gd rfl hg) (.gd rfl hg)) ?_
                refine jg_adr _ rfl _ rfl rfl (op_pick_and (.base rfl) (.base rfl) rfl (by intro h; first | (rw [h]; rfl) | simp_all)) ?_
                refine jg_adr _ rfl _ rfl rfl (op_assign (.base rfl)) ?_
                refine jg_nil ?_
                refine jn_keep [4] [] (.cons rfl .nil) .nil ?_
                refine jn_seq (j_ret (jr_blk (jr_seq ?_)))
                exact jr_fin1 Try.results57 (res_tmp rfl) rfl (rb (by subst_vars; first | rfl | (simp [found]; done) | (simp [found, *]; done) | (rw [Bool.eq_iff_iff]; simp [found, *]; omega) | (unfold found; (repeat' split) <;> first | rfl | omega | (rw [Bool.eq_iff_iff]; simp; omega) | (simp_all; done) | (simp_all; omega) | (exfalso; omega))))
              · have g14 := h14; try simp at h14
                refine j_seq ?_
                refine j_region ?_
                refine jg_adr _ rfl _ rfl rfl (op_eql (.base rfl) (.base rfl)) ?_
                refine jg_adr _ rfl _ rfl rfl (op_assign (.base rfl)) ?_
                refine jg_nil ?_
                refine jn_keep [2, 3, 6, 83] [2, 3] (.cons rfl (.cons rfl (.cons rfl (.cons rfl .nil)))) (.cons rfl (.cons rfl .nil)) ?_
                refine jn_seq ?_
                refine j_cond rfl (fun h15 => ?_) (fun h15 => ?_)
                · have g15 := h15; try simp at h15
                  refine j_skip (jn_seq ?_)
                  refine j_cond_t rfl g15 (j_seq ?_)
                  refine j_region ?_
                  refine jg_adr _ rfl _ rfl rfl (op_ofield fld27_5 (.base rfl)) ?_
                  refine jg_adr _ rfl _ rfl rfl (op_oload ty4 (.base rfl) rfl rfl ln27_5) ?_
                  refine jg_adr _ rfl _ rfl rfl (op_move (.base rfl)) ?_
                  refine jg_gd _ _ _ _ _ _ rfl rfl rfl rfl rfl (fun hg => op_ofield fld50_1 (.base rfl)) ?_
                  refine jg_gd _ _ _ _ _ _ rfl rfl rfl rfl rfl (fun hg => op_oload ty3 (.gd rfl hg) rfl rfl ln50_1) ?_
                  refine jg_gd _ _ _ _ _ _ rfl rfl rfl rfl rfl (fun hg => op_geq (.gd rfl hg) (.base rfl)) ?_
                  refine jg_adr _ rfl _ rfl rfl (op_pick_and (.base rfl) (.base rfl) rfl (by intro h; first | (rw [h]; rfl) | simp_all)) ?_
                  refine jg_adr _ rfl _ rfl rfl (op_move (.base rfl)) ?_
                  refine jg_gd _ _ _ _ _ _ rfl rfl rfl rfl rfl (fun hg => op_ofield fld50_1 (.base rfl)) ?_
                  refine jg_gd _ _ _ _ _ _ rfl rfl rfl rfl rfl (fun hg => op_oload ty3 (.gd rfl hg) rfl rfl ln50_1) ?_
                  refine jg_gd _ _ _ _ _ _ rfl rfl rfl rfl rfl (fun hg => op_ofield fld27_4 (.base rfl)) ?_
                  refine jg_gd _ _ _ _ _ _ rfl rfl rfl rfl rfl (fun hg => op_oload ty25 (.gd rfl hg) rfl rfl ln27_4) ?_
                  refine jg_gd _ _ _ _ _ _ rfl rfl rfl rfl rfl (fun hg => op_len Try.underlying25 (.gd rfl hg)) ?_
                  refine jg_gd _ _ _ _ _ _ rfl rfl rfl rfl rfl (fun hg => op_lss (.gd rfl hg) (.gd rfl hg)) ?_
                  refine jg_adr _ rfl _ rfl rfl (op_pick_and (.base rfl) (.base rfl) rfl (by intro h; first | (rw [h]; rfl) | simp_all)) ?_
                  refine jg_adr _ rfl _ rfl rfl (op_assign (.base rfl)) ?_
                  refine jg_nil ?_
                  refine jn_keep [4] [] (.cons rfl .nil) .nil ?_
                  refine jn_seq (j_ret (jr_blk (jr_seq ?_)))
                  exact jr_fin1 Try.results57 (res_tmp rfl) rfl (rb (by subst_vars; first | rfl | (simp [found]; done) | (simp [found, *]; done) | (rw [Bool.eq_iff_iff]; simp [found, *]; omega) | (unfold found; (repeat' split) <;> first | rfl | omega | (rw [Bool.eq_iff_iff]; simp; omega) | (simp_all; done) | (simp_all; omega) | (exfalso; omega))))
                · have g15 := h15; try simp at h15
                  refine j_seq ?_
                  refine j_region ?_
                  refine jg_adr _ rfl _ rfl rfl (op_eql (.base rfl) (.base rfl)) ?_
                  refine jg_adr _ rfl _ rfl rfl (op_assign (.base rfl)) ?_
                  refine jg_nil ?_
                  refine jn_keep [2, 3, 6, 83] [2, 3] (.cons rfl (.cons rfl (.cons rfl (.cons rfl .nil)))) (.cons rfl (.cons rfl .nil)) ?_
                  refine jn_seq ?_
                  refine j_cond rfl (fun h16 => ?_) (fun h16 => ?_)
                  · have g16 := h16; try simp at h16
                    refine j_skip (jn_seq ?_)
                    refine j_cond_t rfl g16 (j_seq ?_)
                    refine j_region ?_
                    refine jg_adr _ rfl _ rfl rfl (op_ofield fld27_5 (.base rfl)) ?_
                    refine jg_adr _ rfl _ rfl rfl (op_oload ty4 (.base rfl) rfl rfl ln27_5) ?_
                    refine jg_adr _ rfl _ rfl rfl (op_move (.base rfl)) ?_
                    refine jg_gd _ _ _ _ _ _ rfl rfl rfl rfl rfl (fun hg => op_ofield fld50_1 (.base rfl)) ?_
                    refine jg_gd _ _ _ _ _ _ rfl rfl rfl rfl rfl (fun hg => op_oload ty3 (.gd rfl hg) rfl rfl ln50_1) ?_
                    refine jg_gd _ _ _ _ _ _ rfl rfl rfl rfl rfl (fun hg => op_geq (.gd rfl hg) (.base rfl)) ?_
                    refine jg_adr _ rfl _ rfl rfl (op_pick_and (.base rfl) (.base rfl) rfl (by intro h; first | (rw [h]; rfl) | simp_all)) ?_
                    refine jg_adr _ rfl _ rfl rfl (op_move (.base rfl)) ?_
                    refine jg_gd _ _ _ _ _ _ rfl rfl rfl rfl rfl (fun hg => op_ofield fld50_1 (.base rfl)) ?_
                    refine jg_gd _ _ _ _ _ _ rfl rfl rfl rfl rfl (fun hg => op_oload ty3 (.gd rfl hg) rfl rfl ln50_1) ?_
                    refine jg_gd _ _ _ _ _ _ rfl rfl rfl rfl rfl (fun hg => op_ofield fld27_4 (.base rfl)) ?_
                    refine jg_gd _ _ _ _ _ _ rfl rfl rfl rfl rfl (fun hg => op_oload ty25 (.gd rfl hg) rfl rfl ln27_4) ?_
                    refine jg_gd _ _ _ _ _ _ rfl rfl rfl rfl rfl (fun hg => op_len Try.underlying25 (.gd rfl hg)) ?_
                    refine jg_gd _ _ _ _ _ _ rfl rfl rfl rfl rfl (fun hg => op_lss (.gd rfl hg) (.gd rfl hg)) ?_
                    refine jg_adr _ rfl _ rfl rfl (op_pick_and (.base rfl) (.base rfl) rfl (by intro h; first | (rw [h]; rfl) | simp_all)) ?_
                    refine jg_adr _ rfl _ rfl rfl (op_assign (.base rfl)) ?_
                    refine jg_nil ?_
                    refine jn_keep [4] [] (.cons rfl .nil) .nil ?_
                    refine jn_seq (j_ret (jr_blk (jr_seq ?_)))
                    exact jr_fin1 Try.results57 (res_tmp rfl) rfl (rb (by subst_vars; first | rfl | (simp [found]; done) | (simp [found, *]; done) | (rw [Bool.eq_iff_iff]; simp [found, *]; omega) | (unfold found; (repeat' split) <;> first | rfl | omega | (rw [Bool.eq_iff_iff]; simp; omega) | (simp_all; done) | (simp_all; omega) | (exfalso; omega))))
                  · have g16 := h16; try simp at h16
                    refine j_region ?_
                    refine jg_adr _ rfl _ rfl rfl (op_eql (.base rfl) (.base rfl)) ?_
                    refine jg_adr _ rfl _ rfl rfl (op_assign (.base rfl)) ?_
                    refine jg_nil ?_
                    refine jn_keep [2, 3, 83] [2, 3] (.cons rfl (.cons rfl (.cons rfl .nil))) (.cons rfl (.cons rfl .nil)) ?_
                    refine jn_seq ?_
                    refine j_cond rfl (fun h17 => ?_) (fun h17 => ?_)
                    · have g17 := h17; try simp at h17
                      refine j_seq ?_
                      refine j_region ?_
                      refine jg_adr _ rfl _ rfl rfl (op_ofield fld27_5 (.base rfl)) ?_
                      refine jg_adr _ rfl _ rfl rfl (op_oload ty4 (.base rfl) rfl rfl ln27_5) ?_
                      refine jg_adr _ rfl _ rfl rfl (op_move (.base rfl)) ?_
                      refine jg_gd _ _ _ _ _ _ rfl rfl rfl rfl rfl (fun hg => op_ofield fld50_1 (.base rfl)) ?_
                      refine jg_gd _ _ _ _ _ _ rfl rfl rfl rfl rfl (fun hg => op_oload ty3 (.gd rfl hg) rfl rfl ln50_1) ?_
                      refine jg_gd _ _ _ _ _ _ rfl rfl rfl rfl rfl (fun hg => op_geq (.gd rfl hg) (.base rfl)) ?_
                      refine jg_adr _ rfl _ rfl rfl (op_pick_and (.base rfl) (.base rfl) rfl (by intro h; first | (rw [h]; rfl) | simp_all)) ?_
                      refine jg_adr _ rfl _ rfl rfl (op_move (.base rfl)) ?_
                      refine jg_gd _ _ _ _ _ _ rfl rfl rfl rfl rfl (fun hg => op_ofield fld50_1 (.base rfl)) ?_
                      refine jg_gd _ _ _ _ _ _ rfl rfl rfl rfl rfl (fun hg => op_oload ty3 (.gd rfl hg) rfl rfl ln50_1) ?_
                      refine jg_gd _ _ _ _ _ _ rfl rfl rfl rfl rfl (fun hg => op_ofield fld27_4 (.base rfl)) ?_
                      refine jg_gd _ _ _ _ _ _ rfl rfl rfl rfl rfl (fun hg => op_oload ty25 (.gd rfl hg) rfl rfl ln27_4) ?_
                      refine jg_gd _ _ _ _ _ _ rfl rfl rfl rfl rfl (fun hg => op_len Try.underlying25 (.gd rfl hg)) ?_
                      refine jg_gd _ _ _ _ _ _ rfl rfl rfl rfl rfl (fun hg => op_lss (.gd rfl hg) (.gd rfl hg)) ?_
                      refine jg_adr _ rfl _ rfl rfl (op_pick_and (.base rfl) (.base rfl) rfl (by intro h; first | (rw [h]; rfl) | simp_all)) ?_
                      refine jg_adr _ rfl _ rfl rfl (op_assign (.base rfl)) ?_
                      refine jg_nil ?_
                      refine jn_keep [4] [] (.cons rfl .nil) .nil ?_
                      refine jn_seq (j_ret (jr_blk (jr_seq ?_)))
                      exact jr_fin1 Try.results57 (res_tmp rfl) rfl (rb (by subst_vars; first | rfl | (simp [found]; done) | (simp [found, *]; done) | (rw [Bool.eq_iff_iff]; simp [found, *]; omega) | (unfold found; (repeat' split) <;> first | rfl | omega | (rw [Bool.eq_iff_iff]; simp; omega) | (simp_all; done) | (simp_all; omega) | (exfalso; omega))))
                    · have g17 := h17; try simp at h17
                      refine j_skip (jn_blk (jn_seq (j_seq ?_)))
                      refine j_region ?_
                      refine jg_adr _ rfl _ rfl rfl (op_assign (.base rfl)) ?_
                      refine jg_nil ?_
                      refine jn_keep [4] [] (.cons rfl .nil) .nil ?_
                      refine jn_seq (j_ret ?_)
                      exact jr_fin1 Try.results57 (res_tmp rfl) rfl (rb (by subst_vars; first | rfl | (simp [found]; done) | (simp [found, *]; done) | (rw [Bool.eq_iff_iff]; simp [found, *]; omega) | (unfold found; (repeat' split) <;> first | rfl | omega | (rw [Bool.eq_iff_iff]; simp; omega) | (simp_all; done) | (simp_all; omega) | (exfalso; omega))))

theorem leaf_ok (d : TNode) (s : TSignature) (hn : d.2 ≤ 9223372036854775807) (hr : ranged d s = true) (hf : found d s = true) : Ct Try.prog 58 [.tv rNode d, .tv rSignature s] (svB (leafT d s, leafOk d.1 (leafT d s).1 (validType (leafT d s) s.1))) := by
  refine ct_intro Try.func58 rfl rfl Try.ntmps58 rfl rfl ?_
  intro w0 ok0
  refine j_seq ?_
  refine j_region ?_
  refine jg_os _ rfl (op_box (.tv (.base rfl)) rfl rfl rfl) ?_
  refine jg_os _ rfl (op_box (.tv (.base rfl)) rfl rfl rfl) ?_
  refine jg_os _ rfl (op_alloc _ z36 rfl rfl rfl) ?_
  refine jg_adr _ rfl _ rfl rfl (op_assign (.base rfl)) ?_
  refine jg_nil ?_
  refine jn_keep [2, 3, 4] [2, 3, 4] (.cons rfl (.cons rfl (.cons rfl .nil))) (.cons rfl (.cons rfl (.cons rfl .nil))) ?_
  refine jn_seq (j_seq ?_)
  refine j_region ?_
  refine jg_adr _ rfl _ rfl rfl (op_build z36 rfl pl36 .nil) ?_
  refine jg_os _ rfl (op_alloc _ z36 rfl rfl rfl) ?_
  refine jg_os _ rfl (op_ostore ty36 (.base rfl) rfl rfl (Lens.id _) (.tv (.base rfl))) ?_
  refine jg_nil ?_
  refine jn_keep [2, 3, 4, 6] [2, 3, 4, 6] (.cons rfl (.cons rfl (.cons rfl (.cons rfl .nil)))) (.cons rfl (.cons rfl (.cons rfl (.cons rfl .nil)))) ?_
  refine jn_seq (j_seq (j_seq ?_))
  refine j_region ?_
  refine jg_adr _ rfl _ rfl rfl (op_ofield fld50_0 (.base rfl)) ?_
  refine jg_adr _ rfl _ rfl rfl (op_oload ty3 (.base rfl) rfl rfl ln50_0) ?_
  refine jg_nil ?_
  refine jn_keep [2, 3, 4, 6, 10] [2, 3, 4, 6] (.cons rfl (.cons rfl (.cons rfl (.cons rfl (.cons rfl .nil))))) (.cons rfl (.cons rfl (.cons rfl (.cons rfl .nil)))) ?_
  refine jn_seq ?_
  refine j_cut (ι := Unit) (fun _ => ⟨[(2, .optr 2 rNode.n 0 0), (3, .optr 3 rSignature.n 0 0), (4, .optr 4 rType.n 0 0), (6, .optr 6 rType.n 0 0)], [(2, ⟨rNode, [d]⟩), (3, ⟨rSignature, [s]⟩), (4, ⟨rType, [(0, 0)]⟩), (6, ⟨rType, [leafT d s]⟩)]⟩) (fun _ => True) ?_ ?_
  · skip
    refine j_block (j_seq ?_)
    refine j_region ?_
    refine jg_adr _ rfl _ rfl rfl (op_eql (.base rfl) (.base rfl)) ?_
    refine jg_adr _ rfl _ rfl rfl (op_assign (.base rfl)) ?_
    refine jg_nil ?_
    refine jn_keep [2, 3, 4, 6, 10, 14] [2, 3, 4, 6] (.cons rfl (.cons rfl (.cons rfl (.cons rfl (.cons rfl (.cons rfl .nil)))))) (.cons rfl (.cons rfl (.cons rfl (.cons rfl .nil)))) ?_
    refine jn_seq ?_
    refine j_cond rfl (fun h4 => ?_) (fun h4 => ?_)
    · try simp at h4
      have hq : 0 ≤ d.2 := by simpa [ranged, h4] using hr
      refine j_region ?_
      refine jg_adr _ rfl _ rfl rfl (op_ofield fld50_1 (.base rfl)) ?_
      refine jg_adr _ rfl _ rfl rfl (op_oload ty3 (.base rfl) rfl rfl ln50_1) ?_
      refine jg_adr _ rfl _ rfl rfl (op_quo (.base rfl) (.base rfl) (by omega) (quo64 hq hn (by omega))) ?_
      refine jg_adr _ rfl _ rfl rfl (op_build z36 rfl pl36 (.cons (rt' := (rInt .i64)) rfl ln36_0 (.raw (.base rfl) rfl) (.cons (rt' := (rInt .i64)) rfl ln36_1 (.raw (.base rfl) rfl) .nil))) ?_
      refine jg_os _ rfl (op_ostore ty36 (.base rfl) rfl rfl (Lens.id _) (.tv (.base rfl))) ?_
      refine jg_nil ?_
      refine jn_keep [2, 3, 4, 6] [2, 3, 4, 6] (.cons rfl (.cons rfl (.cons rfl (.cons rfl .nil)))) (.cons rfl (.cons rfl (.cons rfl (.cons rfl .nil)))) ?_
      refine jn_blk ?_
      exact jn_loop (fun a w hi => ⟨(), trivial, Sub.inv ⟨(by repeat (first | exact SubS_nil | refine SubS_cons rfl (by first | rfl | (simp; done) | assumption) ?_)), (by repeat (first | exact SubH_nil | refine SubH_cons rfl (by first | rfl | (refine congrArg (HB.mk rType) ?_; first | (simp [leafT, *]; done) | (simp [leafT, *]; exact (nthT_eq (by omega)).symm) | (unfold leafT; (repeat' split) <;> first | rfl | (exfalso; omega)))) ?_))⟩ hi⟩)
    · try simp at h4
      refine j_seq ?_
      refine j_region ?_
      refine jg_adr _ rfl _ rfl rfl (op_eql (.base rfl) (.base rfl)) ?_
      refine jg_adr _ rfl _ rfl rfl (op_assign (.base rfl)) ?_
      refine jg_nil ?_
      refine jn_keep [2, 3, 4, 6, 10, 20] [2, 3, 4, 6] (.cons rfl (.cons rfl (.cons rfl (.cons rfl (.cons rfl (.cons rfl .nil)))))) (.cons rfl (.cons rfl (.cons rfl (.cons rfl .nil)))) ?_
      refine jn_seq ?_
      refine j_cond rfl (fun h6 => ?_) (fun h6 => ?_)
      · try simp at h6
        have hq : 0 ≤ d.2 ∧ d.2 < s.2.2.1.length := by simpa [found, h6] using hf
        have hb := hq.2
        refine j_region ?_
        refine jg_adr _ rfl _ rfl rfl (op_ofield fld27_2 (.base rfl)) ?_
        refine jg_adr _ rfl _ rfl rfl (op_oload ty25 (.base rfl) rfl rfl ln27_2) ?_
        refine jg_adr _ rfl _ rfl rfl (op_ofield fld50_1 (.base rfl)) ?_
        refine jg_adr _ rfl _ rfl rfl (op_oload ty3 (.base rfl) rfl rfl ln50_1) ?_
        refine jg_adr _ rfl _ rfl rfl (op_index Try.underlying25 ty36 (.base rfl) (.base rfl) (Int.toNat_of_nonneg hq.1).symm (List.getElem?_eq_getElem (by first | omega | (simp; done) | (simp; omega) | (simp at hg; omega)))) ?_
        refine jg_adr _ rfl _ rfl rfl (op_load ty36 (.base rfl)) ?_
        refine jg_os _ rfl (op_ostore ty36 (.base rfl) rfl rfl (Lens.id _) (.tv (.base rfl))) ?_
        refine jg_nil ?_
        refine jn_keep [2, 3, 4, 6] [2, 3, 4, 6] (.cons rfl (.cons rfl (.cons rfl (.cons rfl .nil)))) (.cons rfl (.cons rfl (.cons rfl (.cons rfl .nil)))) ?_
        refine jn_blk ?_
        exact jn_loop (fun a w hi => ⟨(), trivial, Sub.inv ⟨(by repeat (first | exact SubS_nil | refine SubS_cons rfl (by first | rfl | (simp; done) | assumption) ?_)), (by repeat (first | exact SubH_nil | refine SubH_cons rfl (by first | rfl | (refine congrArg (HB.mk rType) ?_; first | (simp [leafT, *]; done) | (simp [leafT, *]; exact (nthT_eq (by omega)).symm) | (unfold leafT; (repeat' split) <;> first | rfl | (exfalso; omega)))) ?_))⟩ hi⟩)
      · try simp at h6
        refine j_seq ?_
        refine j_region ?_
        refine jg_adr _ rfl _ rfl rfl (op_eql (.base rfl) (.base rfl)) ?_
        refine jg_adr _ rfl _ rfl rfl (op_assign (.base rfl)) ?_
        refine jg_nil ?_
        refine jn_keep [2, 3, 4, 6, 10, 28] [2, 3, 4, 6] (.cons rfl (.cons rfl (.cons rfl (.cons rfl (.cons rfl (.cons rfl .nil)))))) (.cons rfl (.cons rfl (.cons rfl (.cons rfl .nil)))) ?_
        refine jn_seq ?_
        refine j_cond rfl (fun h8 => ?_) (fun h8 => ?_)
        · try simp at h8
          have hq : 0 ≤ d.2 ∧ d.2 < s.2.2.2.1.length := by simpa [found, h8] using hf
          have hb := hq.2
          refine j_region ?_
          refine jg_adr _ rfl _ rfl rfl (op_ofield fld27_3 (.base rfl)) ?_
          refine jg_adr _ rfl _ rfl rfl (op_oload ty25 (.base rfl) rfl rfl ln27_3) ?_
          refine jg_adr _ rfl _ rfl rfl (op_ofield fld50_1 (.base rfl)) ?_
          refine jg_adr _ rfl _ rfl rfl (op_oload ty3 (.base rfl) rfl rfl ln50_1) ?_
          refine jg_adr _ rfl _ rfl rfl (op_index Try.underlying25 ty36 (.base rfl) (.base rfl) (Int.toNat_of_nonneg hq.1).symm (List.getElem?_eq_getElem (by first | omega | (simp; done) | (simp; omega) | (simp at hg; omega)))) ?_
          refine jg_adr _ rfl _ rfl rfl (op_load ty36 (.base rfl)) ?_
          refine jg_os _ rfl (op_ostore ty36 (.base rfl) rfl rfl (Lens.id _) (.tv (.base rfl))) ?_
          refine jg_nil ?_
          refine jn_keep [2, 3, 4, 6] [2, 3, 4, 6] (.cons rfl (.cons rfl (.cons rfl (.cons rfl .nil)))) (.cons rfl (.cons rfl (.cons rfl (.cons rfl .nil)))) ?_
          refine jn_blk ?_
          exact jn_loop (fun a w hi => ⟨(), trivial, Sub.inv ⟨(by repeat (first | exact SubS_nil | refine SubS_cons rfl (by first | rfl | (simp; done) | assumption) ?_)), (by repeat (first | exact SubH_nil | refine SubH_cons rfl (by first | rfl | (refine congrArg (HB.mk rType) ?_; first | (simp [leafT, *]; done) | (simp [leafT, *]; exact (nthT_eq (by omega)).symm) | (unfold leafT; (repeat' split) <;> first | rfl | (exfalso; omega)))) ?_))⟩ hi⟩)
        · try simp at h8
          refine j_seq ?_
          refine j_region ?_
          refine jg_adr _ rfl _ rfl rfl (op_eql (.base rfl) (.base rfl)) ?_
          refine jg_adr _ rfl _ rfl rfl (op_assign (.base rfl)) ?_
          refine jg_nil ?_
          refine jn_keep [2, 3, 4, 6, 10, 36] [2, 3, 4, 6] (.cons rfl (.cons rfl (.cons rfl (.cons rfl (.cons rfl (.cons rfl .nil)))))) (.cons rfl (.cons rfl (.cons rfl (.cons rfl .nil)))) ?_
          refine jn_seq ?_
          refine j_cond rfl (fun h10 => ?_) (fun h10 => ?_)
          · try simp at h10
            refine j_region ?_
            refine jg_adr _ rfl _ rfl rfl (op_call (rkind_ok _) (.cons (.base rfl) .nil) rfl rfl) ?_
            refine jg_os _ rfl (op_ostore ty36 (.base rfl) rfl rfl (Lens.id _) (.tv (.base rfl))) ?_
            refine jg_nil ?_
            refine jn_keep [2, 3, 4, 6] [2, 3, 4, 6] (.cons rfl (.cons rfl (.cons rfl (.cons rfl .nil)))) (.cons rfl (.cons rfl (.cons rfl (.cons rfl .nil)))) ?_
            refine jn_blk ?_
            exact jn_loop (fun a w hi => ⟨(), trivial, Sub.inv ⟨(by repeat (first | exact SubS_nil | refine SubS_cons rfl (by first | rfl | (simp; done) | assumption) ?_)), (by repeat (first | exact SubH_nil | refine SubH_cons rfl (by first | rfl | (refine congrArg (HB.mk rType) ?_; first | (simp [leafT, *]; done) | (simp [leafT, *]; exact (nthT_eq (by omega)).symm) | (unfold leafT; (repeat' split) <;> first | rfl | (exfalso; omega)))) ?_))⟩ hi⟩)
          · try simp at h10
            refine j_seq ?_
            refine j_region ?_
            refine jg_adr _ rfl _ rfl rfl (op_eql (.base rfl) (.base rfl)) ?_
            refine jg_adr _ rfl _ rfl rfl (op_assign (.base rfl)) ?_
            refine jg_nil ?_
            refine jn_keep [2, 3, 4, 6, 10, 39] [2, 3, 4, 6] (.cons rfl (.cons rfl (.cons rfl (.cons rfl (.cons rfl (.cons rfl .nil)))))) (.cons rfl (.cons rfl (.cons rfl (.cons rfl .nil)))) ?_
            refine jn_seq ?_
            refine j_cond rfl (fun h12 => ?_) (fun h12 => ?_)
            · try simp at h12
              refine j_region ?_
              refine jg_adr _ rfl _ rfl rfl (op_call (rkind_ok _) (.cons (.base rfl) .nil) rfl rfl) ?_
              refine jg_os _ rfl (op_ostore ty36 (.base rfl) rfl rfl (Lens.id _) (.tv (.base rfl))) ?_
              refine jg_nil ?_
              refine jn_keep [2, 3, 4, 6] [2, 3, 4, 6] (.cons rfl (.cons rfl (.cons rfl (.cons rfl .nil)))) (.cons rfl (.cons rfl (.cons rfl (.cons rfl .nil)))) ?_
              refine jn_blk ?_
              exact jn_loop (fun a w hi => ⟨(), trivial, Sub.inv ⟨(by repeat (first | exact SubS_nil | refine SubS_cons rfl (by first | rfl | (simp; done) | assumption) ?_)), (by repeat (first | exact SubH_nil | refine SubH_cons rfl (by first | rfl | (refine congrArg (HB.mk rType) ?_; first | (simp [leafT, *]; done) | (simp [leafT, *]; exact (nthT_eq (by omega)).symm) | (unfold leafT; (repeat' split) <;> first | rfl | (exfalso; omega)))) ?_))⟩ hi⟩)
            · try simp at h12
              refine j_seq (j_seq ?_)
              refine j_region ?_
              refine jg_adr _ rfl _ rfl rfl (op_eql (.base rfl) (.base rfl)) ?_
              refine jg_adr _ rfl _ rfl rfl (op_assign (.base rfl)) ?_
              refine jg_nil ?_
              refine jn_keep [2, 3, 4, 6, 10, 42] [2, 3, 4, 6] (.cons rfl (.cons rfl (.cons rfl (.cons rfl (.cons rfl (.cons rfl .nil)))))) (.cons rfl (.cons rfl (.cons rfl (.cons rfl .nil)))) ?_
              refine jn_seq ?_
              refine j_cond rfl (fun h14 => ?_) (fun h14 => ?_)
              · have g14 := h14; try simp at h14
                refine j_skip (jn_seq ?_)
                refine j_cond_t rfl g14 ?_
                have hq : (s.2.2.2.2.2 = true ∧ 0 ≤ d.2) ∧ d.2 < s.2.2.2.2.1.length := by simpa [found, *] using hf
                have hq1 := hq.1.2
                have hb := hq.2
                refine j_region ?_
                refine jg_adr _ rfl _ rfl rfl (op_ofield fld27_4 (.base rfl)) ?_
                refine jg_adr _ rfl _ rfl rfl (op_oload ty25 (.base rfl) rfl rfl ln27_4) ?_
                refine jg_adr _ rfl _ rfl rfl (op_ofield fld50_1 (.base rfl)) ?_
                refine jg_adr _ rfl _ rfl rfl (op_oload ty3 (.base rfl) rfl rfl ln50_1) ?_
                refine jg_adr _ rfl _ rfl rfl (op_index Try.underlying25 ty36 (.base rfl) (.base rfl) (Int.toNat_of_nonneg hq1).symm (List.getElem?_eq_getElem (by first | omega | (simp; done) | (simp; omega) | (simp at hg; omega)))) ?_
                refine jg_adr _ rfl _ rfl rfl (op_load ty36 (.base rfl)) ?_
                refine jg_os _ rfl (op_ostore ty36 (.base rfl) rfl rfl (Lens.id _) (.tv (.base rfl))) ?_
                refine jg_nil ?_
                refine jn_keep [2, 3, 4, 6] [2, 3, 4, 6] (.cons rfl (.cons rfl (.cons rfl (.cons rfl .nil)))) (.cons rfl (.cons rfl (.cons rfl (.cons rfl .nil)))) ?_
                refine jn_blk ?_
                exact jn_loop (fun a w hi => ⟨(), trivial, Sub.inv ⟨(by repeat (first | exact SubS_nil | refine SubS_cons rfl (by first | rfl | (simp; done) | assumption) ?_)), (by repeat (first | exact SubH_nil | refine SubH_cons rfl (by first | rfl | (refine congrArg (HB.mk rType) ?_; first | (simp [leafT, *]; done) | (simp [leafT, *]; exact (nthT_eq (by omega)).symm) | (unfold leafT; (repeat' split) <;> first | rfl | (exfalso; omega)))) ?_))⟩ hi⟩)
              · have g14 := h14; try simp at h14
                refine j_seq ?_
                refine j_region ?_
                refine jg_adr _ rfl _ rfl rfl (op_eql (.base rfl) (.base rfl)) ?_
                refine jg_adr _ rfl _ rfl rfl (op_assign (.base rfl)) ?_
                refine jg_nil ?_
                refine jn_keep [2, 3, 4, 6, 10, 42] [2, 3, 4, 6] (.cons rfl (.cons rfl (.cons rfl (.cons rfl (.cons rfl (.cons rfl .nil)))))) (.cons rfl (.cons rfl (.cons rfl (.cons rfl .nil)))) ?_
                refine jn_seq ?_
                refine j_cond rfl (fun h15 => ?_) (fun h15 => ?_)
                · have g15 := h15; try simp at h15
                  refine j_skip (jn_seq ?_)
                  refine j_cond_t rfl g15 ?_
                  have hq : (s.2.2.2.2.2 = true ∧ 0 ≤ d.2) ∧ d.2 < s.2.2.2.2.1.length := by simpa [found, *] using hf
                  have hq1 := hq.1.2
                  have hb := hq.2
                  refine j_region ?_
                  refine jg_adr _ rfl _ rfl rfl (op_ofield fld27_4 (.base rfl)) ?_
                  refine jg_adr _ rfl _ rfl rfl (op_oload ty25 (.base rfl) rfl rfl ln27_4) ?_
                  refine jg_adr _ rfl _ rfl rfl (op_ofield fld50_1 (.base rfl)) ?_
                  refine jg_adr _ rfl _ rfl rfl (op_oload ty3 (.base rfl) rfl rfl ln50_1) ?_
                  refine jg_adr _ rfl _ rfl rfl (op_index Try.underlying25 ty36 (.base rfl) (.base rfl) (Int.toNat_of_nonneg hq1).symm (List.getElem?_eq_getElem (by first | omega | (simp; done) | (simp; omega) | (simp at hg; omega)))) ?_
                  refine jg_adr _ rfl _ rfl rfl (op_load ty36 (.base rfl)) ?_
                  refine jg_os _ rfl (op_ostore ty36 (.base rfl) rfl rfl (Lens.id _) (.tv (.base rfl))) ?_
                  refine jg_nil ?_
                  refine jn_keep [2, 3, 4, 6] [2, 3, 4, 6] (.cons rfl (.cons rfl (.cons rfl (.cons rfl .nil)))) (.cons rfl (.cons rfl (.cons rfl (.cons rfl .nil)))) ?_
                  refine jn_blk ?_
                  exact jn_loop (fun a w hi => ⟨(), trivial, Sub.inv ⟨(by repeat (first | exact SubS_nil | refine SubS_cons rfl (by first | rfl | (simp; done) | assumption) ?_)), (by repeat (first | exact SubH_nil | refine SubH_cons rfl (by first | rfl | (refine congrArg (HB.mk rType) ?_; first | (simp [leafT, *]; done) | (simp [leafT, *]; exact (nthT_eq (by omega)).symm) | (unfold leafT; (repeat' split) <;> first | rfl | (exfalso; omega)))) ?_))⟩ hi⟩)
                · have g15 := h15; try simp at h15
                  refine j_seq ?_
                  refine j_region ?_
                  refine jg_adr _ rfl _ rfl rfl (op_eql (.base rfl) (.base rfl)) ?_
                  refine jg_adr _ rfl _ rfl rfl (op_assign (.base rfl)) ?_
                  refine jg_nil ?_
                  refine jn_keep [2, 3, 4, 6, 10, 42] [2, 3, 4, 6] (.cons rfl (.cons rfl (.cons rfl (.cons rfl (.cons rfl (.cons rfl .nil)))))) (.cons rfl (.cons rfl (.cons rfl (.cons rfl .nil)))) ?_
                  refine jn_seq ?_
                  refine j_cond rfl (fun h16 => ?_) (fun h16 => ?_)
                  · have g16 := h16; try simp at h16
                    refine j_skip (jn_seq ?_)
                    refine j_cond_t rfl g16 ?_
                    have hq : (s.2.2.2.2.2 = true ∧ 0 ≤ d.2) ∧ d.2 < s.2.2.2.2.1.length := by simpa [found, *] using hf
                    have hq1 := hq.1.2
                    have hb := hq.2
                    refine j_region ?_
                    refine jg_adr _ rfl _ rfl rfl (op_ofield fld27_4 (.base rfl)) ?_
                    refine jg_adr _ rfl _ rfl rfl (op_oload ty25 (.base rfl) rfl rfl ln27_4) ?_
                    refine jg_adr _ rfl _ rfl rfl (op_ofield fld50_1 (.base rfl)) ?_
                    refine jg_adr _ rfl _ rfl rfl (op_oload ty3 (.base rfl) rfl rfl ln50_1) ?_
                    refine jg_adr _ rfl _ rfl rfl (op_index Try.underlying25 ty36 (.base rfl) (.base rfl) (Int.toNat_of_nonneg hq1).symm (List.getElem?_eq_getElem (by first | omega | (simp; done) | (simp; omega) | (simp at hg; omega)))) ?_
                    refine jg_adr _ rfl _ rfl rfl (op_load ty36 (.base rfl)) ?_
                    refine jg_os _ rfl (op_ostore ty36 (.base rfl) rfl rfl (Lens.id _) (.tv (.base rfl))) ?_
                    refine jg_nil ?_
                    refine jn_keep [2, 3, 4, 6] [2, 3, 4, 6] (.cons rfl (.cons rfl (.cons rfl (.cons rfl .nil)))) (.cons rfl (.cons rfl (.cons rfl (.cons rfl .nil)))) ?_
                    refine jn_blk ?_
                    exact jn_loop (fun a w hi => ⟨(), trivial, Sub.inv ⟨(by repeat (first | exact SubS_nil | refine SubS_cons rfl (by first | rfl | (simp; done) | assumption) ?_)), (by repeat (first | exact SubH_nil | refine SubH_cons rfl (by first | rfl | (refine congrArg (HB.mk rType) ?_; first | (simp [leafT, *]; done) | (simp [leafT, *]; exact (nthT_eq (by omega)).symm) | (unfold leafT; (repeat' split) <;> first | rfl | (exfalso; omega)))) ?_))⟩ hi⟩)
                  · have g16 := h16; try simp at h16
                    refine j_region ?_
                    refine jg_adr _ rfl _ rfl rfl (op_eql (.base rfl) (.base rfl)) ?_
                    refine jg_adr _ rfl _ rfl rfl (op_assign (.base rfl)) ?_
                    refine jg_nil ?_
                    refine jn_keep [2, 3, 4, 6, 42] [2, 3, 4, 6] (.cons rfl (.cons rfl (.cons rfl (.cons rfl (.cons rfl .nil))))) (.cons rfl (.cons rfl (.cons rfl (.cons rfl .nil)))) ?_
                    refine jn_seq ?_
                    refine j_cond rfl (fun h17 => ?_) (fun h17 => ?_)
                    · have g17 := h17; try simp at h17
                      have hq : (s.2.2.2.2.2 = true ∧ 0 ≤ d.2) ∧ d.2 < s.2.2.2.2.1.length := by simpa [found, *] using hf
                      have hq1 := hq.1.2
                      have hb := hq.2
                      refine j_region ?_
                      refine jg_adr _ rfl _ rfl rfl (op_ofield fld27_4 (.base rfl)) ?_
                      refine jg_adr _ rfl _ rfl rfl (op_oload ty25 (.base rfl) rfl rfl ln27_4) ?_
                      refine jg_adr _ rfl _ rfl rfl (op_ofield fld50_1 (.base rfl)) ?_
                      refine jg_adr _ rfl _ rfl rfl (op_oload ty3 (.base rfl) rfl rfl ln50_1) ?_
                      refine jg_adr _ rfl _ rfl rfl (op_index Try.underlying25 ty36 (.base rfl) (.base rfl) (Int.toNat_of_nonneg hq1).symm (List.getElem?_eq_getElem (by first | omega | (simp; done) | (simp; omega) | (simp at hg; omega)))) ?_
                      refine jg_adr _ rfl _ rfl rfl (op_load ty36 (.base rfl)) ?_
                      refine jg_os _ rfl (op_ostore ty36 (.base rfl) rfl rfl (Lens.id _) (.tv (.base rfl))) ?_
                      refine jg_nil ?_
                      refine jn_keep [2, 3, 4, 6] [2, 3, 4, 6] (.cons rfl (.cons rfl (.cons rfl (.cons rfl .nil)))) (.cons rfl (.cons rfl (.cons rfl (.cons rfl .nil)))) ?_
                      refine jn_blk ?_
                      exact jn_loop (fun a w hi => ⟨(), trivial, Sub.inv ⟨(by repeat (first | exact SubS_nil | refine SubS_cons rfl (by first | rfl | (simp; done) | assumption) ?_)), (by repeat (first | exact SubH_nil | refine SubH_cons rfl (by first | rfl | (refine congrArg (HB.mk rType) ?_; first | (simp [leafT, *]; done) | (simp [leafT, *]; exact (nthT_eq (by omega)).symm) | (unfold leafT; (repeat' split) <;> first | rfl | (exfalso; omega)))) ?_))⟩ hi⟩)
                    · have g17 := h17; try simp at h17
                      refine j_region ?_
                      refine jg_adr _ rfl _ rfl rfl (op_ofield fld50_0 (.base rfl)) ?_
                      refine jg_adr _ rfl _ rfl rfl (op_oload ty3 (.base rfl) rfl rfl ln50_0) ?_
                      refine jg_adr _ rfl _ rfl rfl (op_call (rkind_ok _) (.cons (.base rfl) .nil) rfl rfl) ?_
                      refine jg_os _ rfl (op_ostore ty36 (.base rfl) rfl rfl (Lens.id _) (.tv (.base rfl))) ?_
                      refine jg_nil ?_
                      refine jn_keep [2, 3, 4, 6] [2, 3, 4, 6] (.cons rfl (.cons rfl (.cons rfl (.cons rfl .nil)))) (.cons rfl (.cons rfl (.cons rfl (.cons rfl .nil)))) ?_
                      refine jn_blk ?_
                      exact jn_loop (fun a w hi => ⟨(), trivial, Sub.inv ⟨(by repeat (first | exact SubS_nil | refine SubS_cons rfl (by first | rfl | (simp; done) | assumption) ?_)), (by repeat (first | exact SubH_nil | refine SubH_cons rfl (by first | rfl | (refine congrArg (HB.mk rType) ?_; first | (simp [leafT, *]; done) | (simp [leafT, *]; exact (nthT_eq (by omega)).symm) | (unfold leafT; (repeat' split) <;> first | rfl | (exfalso; omega)))) ?_))⟩ hi⟩)
  · rintro _ -
    refine jn_seq (j_seq ?_)
    refine j_region ?_
    refine jg_adr _ rfl _ rfl rfl (op_oload ty36 (.base rfl) rfl rfl (Lens.id _)) ?_
    refine jg_adr _ rfl _ rfl rfl (op_ofield fld27_0 (.base rfl)) ?_
    refine jg_adr _ rfl _ rfl rfl (op_oload ty23 (.base rfl) rfl rfl ln27_0) ?_
    refine jg_adr _ rfl _ rfl rfl (op_call (rvalidType_ok _ _) (.cons (.base rfl) (.cons (.base rfl) .nil)) rfl rfl) ?_
    refine jg_adr _ rfl _ rfl rfl (op_assign (.base rfl)) ?_
    refine jg_nil ?_
    refine jn_keep [2, 4, 6, 7] [2, 4, 6] (.cons rfl (.cons rfl (.cons rfl (.cons rfl .nil)))) (.cons rfl (.cons rfl (.cons rfl .nil))) ?_
    refine jn_seq (j_seq (j_seq ?_))
    refine j_region ?_
    refine jg_adr _ rfl _ rfl rfl (op_ofield fld50_0 (.base rfl)) ?_
    refine jg_adr _ rfl _ rfl rfl (op_oload ty3 (.base rfl) rfl rfl ln50_0) ?_
    refine jg_nil ?_
    refine jn_keep [4, 6, 7, 58] [4, 6] (.cons rfl (.cons rfl (.cons rfl (.cons rfl .nil)))) (.cons rfl (.cons rfl .nil)) ?_
    refine jn_seq (j_block (j_seq ?_))
    refine j_region ?_
    refine jg_adr _ rfl _ rfl rfl (op_eql (.base rfl) (.base rfl)) ?_
    refine jg_adr _ rfl _ rfl rfl (op_assign (.base rfl)) ?_
    refine jg_nil ?_
    refine jn_keep [4, 6, 7, 58, 59] [4, 6] (.cons rfl (.cons rfl (.cons rfl (.cons rfl (.cons rfl .nil))))) (.cons rfl (.cons rfl .nil)) ?_
    refine jn_seq ?_
    refine j_cond rfl (fun h21 => ?_) (fun h21 => ?_)
    · try simp at h21
      refine j_region ?_
      refine jg_adr _ rfl _ rfl rfl (op_move (.base rfl)) ?_
      refine jg_adr _ rfl _ rfl rfl (op_move (.base rfl)) ?_
      refine jg_gd _ _ _ _ _ _ rfl rfl rfl rfl rfl (fun hg => op_ofield fld36_0 (.base rfl)) ?_
      refine jg_gd _ _ _ _ _ _ rfl rfl rfl rfl rfl (fun hg => op_oload ty3 (.gd rfl hg) rfl rfl ln36_0) ?_
      refine jg_gd _ _ _ _ _ _ rfl rfl rfl rfl rfl (fun hg => op_eql (.gd rfl hg) (.base rfl)) ?_
      refine jg_gd _ _ _ _ _ _ rfl rfl rfl rfl rfl (fun hg => op_move (.gd rfl hg)) ?_
      refine jg_gd2 _ _ _ _ _ _ _ rfl rfl rfl rfl rfl (fun hg => op_ofield fld36_0 (.base rfl)) ?_
      refine jg_gd2 _ _ _ _ _ _ _ rfl rfl rfl rfl rfl (fun hg => op_oload ty3 (.gd rfl hg) rfl rfl ln36_0) ?_
      refine jg_gd2 _ _ _ _ _ _ _ rfl rfl rfl rfl rfl (fun hg => op_eql (.gd rfl hg) (.base rfl)) ?_
      refine jg_gd _ _ _ _ _ _ rfl rfl rfl rfl rfl (fun hg => op_pick_or (.gd rfl hg) (.base rfl) rfl (by intro h; first | (rw [h]; rfl) | simp_all)) ?_
      refine jg_adr _ rfl _ rfl rfl (op_pick_and (.base rfl) (.base rfl) rfl (by intro h; first | (rw [h]; rfl) | simp_all)) ?_
      refine jg_adr _ rfl _ rfl rfl (op_assign (.base rfl)) ?_
      refine jg_nil ?_
      refine jn_keep [4, 6, 7] [4, 6] (.cons rfl (.cons rfl (.cons rfl .nil))) (.cons rfl (.cons rfl .nil)) ?_
      refine jn_blk (jn_seq (j_seq ?_))
      refine j_region ?_
      refine jg_adr _ rfl _ rfl rfl (op_oload ty36 (.base rfl) rfl rfl (Lens.id _)) ?_
      refine jg_adr _ rfl _ rfl rfl (op_move (.base rfl)) ?_
      refine jg_os _ rfl (op_ostore ty36 (.base rfl) rfl rfl (Lens.id _) (.tv (.base rfl))) ?_
      refine jg_adr _ rfl _ rfl rfl (op_assign (.base rfl)) ?_
      refine jg_nil ?_
      refine jn_keep [4, 5] [4] (.cons rfl (.cons rfl .nil)) (.cons rfl .nil) ?_
      refine jn_seq (j_ret ?_)
      exact jr_fin2 Try.results58 (res_cell ty36 rfl rfl rfl (Lens.id rType)) (res_tmp rfl) ⟨rfl, rfl⟩ (svB_eq (by first | (simp [leafOk, *]; done) | (unfold leafOk; (repeat' split) <;> first | rfl | (simp_all; done) | omega)))
    · try simp at h21
      refine j_seq (j_seq ?_)
      refine j_region ?_
      refine jg_adr _ rfl _ rfl rfl (op_eql (.base rfl) (.base rfl)) ?_
      refine jg_adr _ rfl _ rfl rfl (op_assign (.base rfl)) ?_
      refine jg_nil ?_
      refine jn_keep [4, 6, 7, 58, 72] [4, 6] (.cons rfl (.cons rfl (.cons rfl (.cons rfl (.cons rfl .nil))))) (.cons rfl (.cons rfl .nil)) ?_
      refine jn_seq ?_
      refine j_cond rfl (fun h23 => ?_) (fun h23 => ?_)
      · have g23 := h23; try simp at h23
        refine j_skip (jn_seq ?_)
        refine j_cond_t rfl g23 ?_
        refine j_region ?_
        refine jg_adr _ rfl _ rfl rfl (op_move (.base rfl)) ?_
        refine jg_adr _ rfl _ rfl rfl (op_move (.base rfl)) ?_
        refine jg_gd _ _ _ _ _ _ rfl rfl rfl rfl rfl (fun hg => op_ofield fld36_0 (.base rfl)) ?_
        refine jg_gd _ _ _ _ _ _ rfl rfl rfl rfl rfl (fun hg => op_oload ty3 (.gd rfl hg) rfl rfl ln36_0) ?_
        refine jg_gd _ _ _ _ _ _ rfl rfl rfl rfl rfl (fun hg => op_eql (.gd rfl hg) (.base rfl)) ?_
        refine jg_adr _ rfl _ rfl rfl (op_pick_and (.base rfl) (.base rfl) rfl (by intro h; first | (rw [h]; rfl) | simp_all)) ?_
        refine jg_adr _ rfl _ rfl rfl (op_assign (.base rfl)) ?_
        refine jg_nil ?_
        refine jn_keep [4, 6, 7] [4, 6] (.cons rfl (.cons rfl (.cons rfl .nil))) (.cons rfl (.cons rfl .nil)) ?_
        refine jn_blk (jn_seq (j_seq ?_))
        refine j_region ?_
        refine jg_adr _ rfl _ rfl rfl (op_oload ty36 (.base rfl) rfl rfl (Lens.id _)) ?_
        refine jg_adr _ rfl _ rfl rfl (op_move (.base rfl)) ?_
        refine jg_os _ rfl (op_ostore ty36 (.base rfl) rfl rfl (Lens.id _) (.tv (.base rfl))) ?_
        refine jg_adr _ rfl _ rfl rfl (op_assign (.base rfl)) ?_
        refine jg_nil ?_
        refine jn_keep [4, 5] [4] (.cons rfl (.cons rfl .nil)) (.cons rfl .nil) ?_
        refine jn_seq (j_ret ?_)
        exact jr_fin2 Try.results58 (res_cell ty36 rfl rfl rfl (Lens.id rType)) (res_tmp rfl) ⟨rfl, rfl⟩ (svB_eq (by first | (simp [leafOk, *]; done) | (unfold leafOk; (repeat' split) <;> first | rfl | (simp_all; done) | omega)))
      · have g23 := h23; try simp at h23
        refine j_region ?_
        refine jg_adr _ rfl _ rfl rfl (op_eql (.base rfl) (.base rfl)) ?_
        refine jg_adr _ rfl _ rfl rfl (op_assign (.base rfl)) ?_
        refine jg_nil ?_
        refine jn_keep [4, 6, 7, 58, 72] [4, 6] (.cons rfl (.cons rfl (.cons rfl (.cons rfl (.cons rfl .nil))))) (.cons rfl (.cons rfl .nil)) ?_
        refine jn_seq ?_
        refine j_cond rfl (fun h24 => ?_) (fun h24 => ?_)
        · have g24 := h24; try simp at h24
          refine j_region ?_
          refine jg_adr _ rfl _ rfl rfl (op_move (.base rfl)) ?_
          refine jg_adr _ rfl _ rfl rfl (op_move (.base rfl)) ?_
          refine jg_gd _ _ _ _ _ _ rfl rfl rfl rfl rfl (fun hg => op_ofield fld36_0 (.base rfl)) ?_
          refine jg_gd _ _ _ _ _ _ rfl rfl rfl rfl rfl (fun hg => op_oload ty3 (.gd rfl hg) rfl rfl ln36_0) ?_
          refine jg_gd _ _ _ _ _ _ rfl rfl rfl rfl rfl (fun hg => op_eql (.gd rfl hg) (.base rfl)) ?_
          refine jg_adr _ rfl _ rfl rfl (op_pick_and (.base rfl) (.base rfl) rfl (by intro h; first | (rw [h]; rfl) | simp_all)) ?_
          refine jg_adr _ rfl _ rfl rfl (op_assign (.base rfl)) ?_
          refine jg_nil ?_
          refine jn_keep [4, 6, 7] [4, 6] (.cons rfl (.cons rfl (.cons rfl .nil))) (.cons rfl (.cons rfl .nil)) ?_
          refine jn_blk (jn_seq (j_seq ?_))
          refine j_region ?_
          refine jg_adr _ rfl _ rfl rfl (op_oload ty36 (.base rfl) rfl rfl (Lens.id _)) ?_
          refine jg_adr _ rfl _ rfl rfl (op_move (.base rfl)) ?_
          refine jg_os _ rfl (op_ostore ty36 (.base rfl) rfl rfl (Lens.id _) (.tv (.base rfl))) ?_
          refine jg_adr _ rfl _ rfl rfl (op_assign (.base rfl)) ?_
          refine jg_nil ?_
          refine jn_keep [4, 5] [4] (.cons rfl (.cons rfl .nil)) (.cons rfl .nil) ?_
          refine jn_seq (j_ret ?_)
          exact jr_fin2 Try.results58 (res_cell ty36 rfl rfl rfl (Lens.id rType)) (res_tmp rfl) ⟨rfl, rfl⟩ (svB_eq (by first | (simp [leafOk, *]; done) | (unfold leafOk; (repeat' split) <;> first | rfl | (simp_all; done) | omega)))
        · have g24 := h24; try simp at h24
          refine j_seq ?_
          refine j_region ?_
          refine jg_adr _ rfl _ rfl rfl (op_eql (.base rfl) (.base rfl)) ?_
          refine jg_adr _ rfl _ rfl rfl (op_assign (.base rfl)) ?_
          refine jg_nil ?_
          refine jn_keep [4, 6, 7, 81] [4, 6] (.cons rfl (.cons rfl (.cons rfl (.cons rfl .nil)))) (.cons rfl (.cons rfl .nil)) ?_
          refine jn_seq ?_
          refine j_cond rfl (fun h26 => ?_) (fun h26 => ?_)
          · try simp at h26
            refine j_region ?_
            refine jg_adr _ rfl _ rfl rfl (op_move (.base rfl)) ?_
            refine jg_adr _ rfl _ rfl rfl (op_move (.base rfl)) ?_
            refine jg_gd _ _ _ _ _ _ rfl rfl rfl rfl rfl (fun hg => op_ofield fld36_0 (.base rfl)) ?_
            refine jg_gd _ _ _ _ _ _ rfl rfl rfl rfl rfl (fun hg => op_oload ty3 (.gd rfl hg) rfl rfl ln36_0) ?_
            refine jg_gd _ _ _ _ _ _ rfl rfl rfl rfl rfl (fun hg => op_call (ordered_ok _) (.cons (.gd rfl hg) .nil) rfl rfl) ?_
            refine jg_adr _ rfl _ rfl rfl (op_pick_and (.base rfl) (.base rfl) rfl (by intro h; first | (rw [h]; rfl) | simp_all)) ?_
            refine jg_adr _ rfl _ rfl rfl (op_assign (.base rfl)) ?_
            refine jg_nil ?_
            refine jn_keep [4, 6, 7] [4, 6] (.cons rfl (.cons rfl (.cons rfl .nil))) (.cons rfl (.cons rfl .nil)) ?_
            refine jn_blk (jn_seq (j_seq ?_))
            refine j_region ?_
            refine jg_adr _ rfl _ rfl rfl (op_oload ty36 (.base rfl) rfl rfl (Lens.id _)) ?_
            refine jg_adr _ rfl _ rfl rfl (op_move (.base rfl)) ?_
            refine jg_os _ rfl (op_ostore ty36 (.base rfl) rfl rfl (Lens.id _) (.tv (.base rfl))) ?_
            refine jg_adr _ rfl _ rfl rfl (op_assign (.base rfl)) ?_
            refine jg_nil ?_
            refine jn_keep [4, 5] [4] (.cons rfl (.cons rfl .nil)) (.cons rfl .nil) ?_
            refine jn_seq (j_ret ?_)
            exact jr_fin2 Try.results58 (res_cell ty36 rfl rfl rfl (Lens.id rType)) (res_tmp rfl) ⟨rfl, rfl⟩ (svB_eq (by first | (simp [leafOk, *]; done) | (unfold leafOk; (repeat' split) <;> first | rfl | (simp_all; done) | omega)))
          · try simp at h26
            refine j_skip (jn_blk (jn_seq (j_seq ?_)))
            refine j_region ?_
            refine jg_adr _ rfl _ rfl rfl (op_oload ty36 (.base rfl) rfl rfl (Lens.id _)) ?_
            refine jg_adr _ rfl _ rfl rfl (op_move (.base rfl)) ?_
            refine jg_os _ rfl (op_ostore ty36 (.base rfl) rfl rfl (Lens.id _) (.tv (.base rfl))) ?_
            refine jg_adr _ rfl _ rfl rfl (op_assign (.base rfl)) ?_
            refine jg_nil ?_
            refine jn_keep [4, 5] [4] (.cons rfl (.cons rfl .nil)) (.cons rfl .nil) ?_
            refine jn_seq (j_ret ?_)
            exact jr_fin2 Try.results58 (res_cell ty36 rfl rfl rfl (Lens.id rType)) (res_tmp rfl) ⟨rfl, rfl⟩ (svB_eq (by first | (simp [leafOk, *]; done) | (unfold leafOk; (repeat' split) <;> first | rfl | (simp_all; done) | omega)))

end Go.Proofs.Ytgoggdaohdablaa
