import Derived.Test.YtgoggdaohdablaaP10k
namespace Go.Proofs.Ytgoggdaohdablaa
open Go.Eng
set_option maxRecDepth 100000
set_option maxHeartbeats 4000000
set_option linter.unusedVariables false
set_option linter.unusedSimpArgs false


def ranged (d : TNode) (s : TSignature) : Bool :=
  if 1 ≤ d.1 ∧ d.1 ≤ 5 then decide ((bounds (d.1, 0) s.1).1 ≤ d.2) && decide (d.2 ≤ (bounds (d.1, 0) s.1).2) else if 14 ≤ d.1 ∧ d.1 ≤ 16 then decide (0 ≤ d.2) && decide (d.2 ≤ 5)
  else if d.1 = 34 then decide (0 ≤ d.2) && decide (d.2 % 8 ≤ 5) else if d.1 = 6 then decide (0 ≤ d.2) else true
def found (d : TNode) (s : TSignature) : Bool :=
  if d.1 = 6 then decide (d.2 / 16 < s.1.length) && decide (d.2 % 16 < memb s.1 (d.2 / 16)) else if d.1 = 7 then decide (0 ≤ d.2) && decide (d.2 < s.2.2.1.length) else if d.1 = 8 then decide (0 ≤ d.2) && decide (d.2 < s.2.2.2.1.length)
  else if d.1 = 33 then decide (0 ≤ d.2) && decide (d.2 < s.2.1.length) else if d.1 = 34 then decide (d.2 / 8 < s.2.1.length) else if d.1 = 35 then s.2.2.2.2.2
  else if 36 ≤ d.1 ∧ d.1 ≤ 39 then s.2.2.2.2.2 && decide (0 ≤ d.2) && decide (d.2 < s.2.2.2.2.1.length) else true

theorem rkind_ok (k : Int) : Ct Try.prog 74 [.raw (.int .i64 k)] (.tv rType (k, 0)) := by
  refine ct_intro Try.func74 rfl rfl Try.ntmps74 rfl rfl ?_
  intro w0 ok0
  refine j_seq ?_
  refine j_region ?_
  refine jg_os _ rfl (op_alloc _ z36 rfl rfl rfl) ?_
  refine jg_nil ?_
  refine jn_keep [0, 2] [2] (.cons rfl (.cons rfl .nil)) (.cons rfl .nil) ?_
  refine jn_seq (j_seq ?_)
  refine j_region ?_
  refine jg_adr _ rfl _ rfl rfl (op_move (.base rfl)) ?_
  refine jg_adr _ rfl _ rfl rfl (op_build z36 rfl pl36 (.cons (rt' := (rInt .i64)) rfl ln36_0 (.raw (.base rfl) rfl) .nil)) ?_
  refine jg_os _ rfl (op_ostore ty36 (.base rfl) rfl rfl (Lens.id _) (.tv (.base rfl))) ?_
  refine jg_nil ?_
  refine jn_keep [2] [2] (.cons rfl .nil) (.cons rfl .nil) ?_
  refine jn_seq (j_ret ?_)
  exact jr_fin1 Try.results74 (res_cell ty36 rfl rfl rfl (Lens.id rType)) rfl rfl

theorem number_ok (op : Int) : Ct Try.prog 76 [.raw (.int .i64 op)] (.raw (.bool (isNumber op))) := by
  refine ct_intro Try.func76 rfl rfl Try.ntmps76 rfl rfl ?_
  intro w0 ok0
  refine j_seq ?_
  refine j_region ?_
  refine jg_adr _ rfl _ rfl rfl (op_assign (.base rfl)) ?_
  refine jg_nil ?_
  refine jn_keep [0] [] (.cons rfl .nil) .nil ?_
  refine jn_seq (j_seq ?_)
  refine j_region ?_
  refine jg_adr _ rfl _ rfl rfl (op_move (.base rfl)) ?_
  refine jg_adr _ rfl _ rfl rfl (op_eql (.base rfl) (.base rfl)) ?_
  refine jg_adr _ rfl _ rfl rfl (op_move (.base rfl)) ?_
  refine jg_gd _ _ _ _ _ _ rfl rfl rfl rfl rfl (fun hg => op_move (.base rfl)) ?_
  refine jg_gd _ _ _ _ _ _ rfl rfl rfl rfl rfl (fun hg => op_eql (.gd rfl hg) (.base rfl)) ?_
  refine jg_adr _ rfl _ rfl rfl (op_pick_or (.base rfl) (.base rfl) rfl (by intro h; first | (rw [h]; rfl) | simp_all)) ?_
  refine jg_adr _ rfl _ rfl rfl (op_move (.base rfl)) ?_
  refine jg_gd _ _ _ _ _ _ rfl rfl rfl rfl rfl (fun hg => op_move (.base rfl)) ?_
  refine jg_gd _ _ _ _ _ _ rfl rfl rfl rfl rfl (fun hg => op_eql (.gd rfl hg) (.base rfl)) ?_
  refine jg_adr _ rfl _ rfl rfl (op_pick_or (.base rfl) (.base rfl) rfl (by intro h; first | (rw [h]; rfl) | simp_all)) ?_
  refine jg_adr _ rfl _ rfl rfl (op_assign (.base rfl)) ?_
  refine jg_nil ?_
  refine jn_keep [2] [] (.cons rfl .nil) .nil ?_
  refine jn_seq (j_ret ?_)
  exact jr_fin1 Try.results76 (res_tmp rfl) rfl (rb (by subst_vars; first | rfl | (simp [isNumber]; done) | (simp [isNumber, *]; done) | (rw [Bool.eq_iff_iff]; simp [isNumber, *]; omega) | (rw [Bool.eq_iff_iff]; simp [isNumber]; omega) | (unfold isNumber; simp; omega) | (unfold isNumber; (repeat' split) <;> first | rfl | omega | (rw [Bool.eq_iff_iff]; simp; omega) | (simp_all; done) | (simp_all; omega) | (exfalso; omega))))

theorem ordered_ok (op : Int) : Ct Try.prog 75 [.raw (.int .i64 op)] (.raw (.bool (isNumber op || op == 5))) := by
  refine ct_intro Try.func75 rfl rfl Try.ntmps75 rfl rfl ?_
  intro w0 ok0
  refine j_seq ?_
  refine j_region ?_
  refine jg_adr _ rfl _ rfl rfl (op_assign (.base rfl)) ?_
  refine jg_nil ?_
  refine jn_keep [0] [] (.cons rfl .nil) .nil ?_
  refine jn_seq (j_seq ?_)
  refine j_region ?_
  refine jg_adr _ rfl _ rfl rfl (op_move (.base rfl)) ?_
  refine jg_adr _ rfl _ rfl rfl (op_call (number_ok _) (.cons (.base rfl) .nil) rfl rfl) ?_
  refine jg_adr _ rfl _ rfl rfl (op_move (.base rfl)) ?_
  refine jg_gd _ _ _ _ _ _ rfl rfl rfl rfl rfl (fun hg => op_move (.base rfl)) ?_
  refine jg_gd _ _ _ _ _ _ rfl rfl rfl rfl rfl (fun hg => op_eql (.gd rfl hg) (.base rfl)) ?_
  refine jg_adr _ rfl _ rfl rfl (op_pick_or (.base rfl) (.base rfl) rfl (by intro h; first | (rw [h]; rfl) | simp_all)) ?_
  refine jg_adr _ rfl _ rfl rfl (op_assign (.base rfl)) ?_
  refine jg_nil ?_
  refine jn_keep [2] [] (.cons rfl .nil) .nil ?_
  refine jn_seq (j_ret ?_)
  exact jr_fin1 Try.results75 (res_tmp rfl) rfl rfl

theorem meaning_ok (op : Int) : Ct Try.prog 55 [.raw (.int .i64 op)] (.raw (.bool (usesN op))) := by
  refine ct_intro Try.func55 rfl rfl Try.ntmps55 rfl rfl ?_
  intro w0 ok0
  refine j_seq ?_
  refine j_region ?_
  refine jg_adr _ rfl _ rfl rfl (op_assign (.base rfl)) ?_
  refine jg_nil ?_
  refine jn_keep [0] [] (.cons rfl .nil) .nil ?_
  refine jn_seq (j_seq (j_seq ?_))
  refine j_region ?_
  refine jg_adr _ rfl _ rfl rfl (op_move (.base rfl)) ?_
  refine jg_adr _ rfl _ rfl rfl (op_geq (.base rfl) (.base rfl)) ?_
  refine jg_adr _ rfl _ rfl rfl (op_move (.base rfl)) ?_
  refine jg_gd _ _ _ _ _ _ rfl rfl rfl rfl rfl (fun hg => op_move (.base rfl)) ?_
  refine jg_gd _ _ _ _ _ _ rfl rfl rfl rfl rfl (fun hg => op_leq (.gd rfl hg) (.base rfl)) ?_
  refine jg_adr _ rfl _ rfl rfl (op_pick_and (.base rfl) (.base rfl) rfl (by intro h; first | (rw [h]; rfl) | simp_all)) ?_
  refine jg_adr _ rfl _ rfl rfl (op_move (.base rfl)) ?_
  refine jg_gd _ _ _ _ _ _ rfl rfl rfl rfl rfl (fun hg => op_move (.base rfl)) ?_
  refine jg_gd _ _ _ _ _ _ rfl rfl rfl rfl rfl (fun hg => op_geq (.gd rfl hg) (.base rfl)) ?_
  refine jg_gd _ _ _ _ _ _ rfl rfl rfl rfl rfl (fun hg => op_move (.gd rfl hg)) ?_
  refine jg_gd2 _ _ _ _ _ _ _ rfl rfl rfl rfl rfl (fun hg => op_move (.base rfl)) ?_
  refine jg_gd2 _ _ _ _ _ _ _ rfl rfl rfl rfl rfl (fun hg => op_leq (.gd rfl hg) (.base rfl)) ?_
  refine jg_gd _ _ _ _ _ _ rfl rfl rfl rfl rfl (fun hg => op_pick_and (.gd rfl hg) (.base rfl) rfl (by intro h; first | (rw [h]; rfl) | simp_all)) ?_
  refine jg_adr _ rfl _ rfl rfl (op_pick_or (.base rfl) (.base rfl) rfl (by intro h; first | (rw [h]; rfl) | simp_all)) ?_
  refine jg_nil ?_
  refine jn_keep [0, 16] [] (.cons rfl (.cons rfl .nil)) .nil ?_
  refine jn_seq ?_
  refine j_cond rfl (fun h1 => ?_) (fun h1 => ?_)
  · try simp at h1
    refine j_seq ?_
    refine j_region ?_
    refine jg_adr _ rfl _ rfl rfl (op_assign (.base rfl)) ?_
    refine jg_nil ?_
    refine jn_keep [2] [] (.cons rfl .nil) .nil ?_
    refine jn_seq (j_ret (jr_seq ?_))
    exact jr_fin1 Try.results55 (res_tmp rfl) rfl (rb (by subst_vars; first | rfl | (simp [usesN]; done) | (simp [usesN, *]; done) | (rw [Bool.eq_iff_iff]; simp [usesN, *]; omega) | (rw [Bool.eq_iff_iff]; simp [usesN]; omega) | (unfold usesN; simp; omega) | (unfold usesN; (repeat' split) <;> first | rfl | omega | (rw [Bool.eq_iff_iff]; simp; omega) | (simp_all; done) | (simp_all; omega) | (exfalso; omega))))
  · try simp at h1
    refine j_skip (jn_seq (j_seq ?_))
    refine j_region ?_
    refine jg_adr _ rfl _ rfl rfl (op_move (.base rfl)) ?_
    refine jg_adr _ rfl _ rfl rfl (op_eql (.base rfl) (.base rfl)) ?_
    refine jg_adr _ rfl _ rfl rfl (op_move (.base rfl)) ?_
    refine jg_gd _ _ _ _ _ _ rfl rfl rfl rfl rfl (fun hg => op_move (.base rfl)) ?_
    refine jg_gd _ _ _ _ _ _ rfl rfl rfl rfl rfl (fun hg => op_eql (.gd rfl hg) (.base rfl)) ?_
    refine jg_adr _ rfl _ rfl rfl (op_pick_or (.base rfl) (.base rfl) rfl (by intro h; first | (rw [h]; rfl) | simp_all)) ?_
    refine jg_adr _ rfl _ rfl rfl (op_move (.base rfl)) ?_
    refine jg_gd _ _ _ _ _ _ rfl rfl rfl rfl rfl (fun hg => op_move (.base rfl)) ?_
    refine jg_gd _ _ _ _ _ _ rfl rfl rfl rfl rfl (fun hg => op_eql (.gd rfl hg) (.base rfl)) ?_
    refine jg_adr _ rfl _ rfl rfl (op_pick_or (.base rfl) (.base rfl) rfl (by intro h; first | (rw [h]; rfl) | simp_all)) ?_
    refine jg_adr _ rfl _ rfl rfl (op_move (.base rfl)) ?_
    refine jg_gd _ _ _ _ _ _ rfl rfl rfl rfl rfl (fun hg => op_move (.base rfl)) ?_
    refine jg_gd _ _ _ _ _ _ rfl rfl rfl rfl rfl (fun hg => op_eql (.gd rfl hg) (.base rfl)) ?_
    refine jg_adr _ rfl _ rfl rfl (op_pick_or (.base rfl) (.base rfl) rfl (by intro h; first | (rw [h]; rfl) | simp_all)) ?_
    refine jg_adr _ rfl _ rfl rfl (op_move (.base rfl)) ?_
    refine jg_gd _ _ _ _ _ _ rfl rfl rfl rfl rfl (fun hg => op_move (.base rfl)) ?_
    refine jg_gd _ _ _ _ _ _ rfl rfl rfl rfl rfl (fun hg => op_eql (.gd rfl hg) (.base rfl)) ?_
    refine jg_adr _ rfl _ rfl rfl (op_pick_or (.base rfl) (.base rfl) rfl (by intro h; first | (rw [h]; rfl) | simp_all)) ?_
    refine jg_adr _ rfl _ rfl rfl (op_assign (.base rfl)) ?_
    refine jg_nil ?_
    refine jn_keep [2] [] (.cons rfl .nil) .nil ?_
    refine jn_seq (j_ret ?_)
    exact jr_fin1 Try.results55 (res_tmp rfl) rfl (rb (by subst_vars; first | rfl | (simp [usesN]; done) | (simp [usesN, *]; done) | (rw [Bool.eq_iff_iff]; simp [usesN, *]; omega) | (rw [Bool.eq_iff_iff]; simp [usesN]; omega) | (unfold usesN; simp; omega) | (unfold usesN; (repeat' split) <;> first | rfl | omega | (rw [Bool.eq_iff_iff]; simp; omega) | (simp_all; done) | (simp_all; omega) | (exfalso; omega))))

theorem rvalidType_ok (t : TType) (en : List TEnum) : Ct Try.prog 36 [.tv rType t, .tv (rSlice rEnum) en] (.raw (.bool (validType t en))) := by
  refine ct_intro Try.func36 rfl rfl Try.ntmps36 rfl rfl ?_
  intro w0 ok0
  refine j_len 1 rfl (fun hl0 => ?_)
  refine j_seq ?_
  refine j_region ?_
  refine jg_os _ rfl (op_box (.tv (.base rfl)) rfl rfl rfl) ?_
  refine jg_adr _ rfl _ rfl rfl (op_assign (.base rfl)) ?_
  refine jg_nil ?_
  refine jn_keep [1, 2] [2] (.cons rfl (.cons rfl .nil)) (.cons rfl .nil) ?_
  refine jn_seq (j_seq (j_seq ?_))
  refine j_region ?_
  refine jg_adr _ rfl _ rfl rfl (op_ofield fld36_0 (.base rfl)) ?_
  refine jg_adr _ rfl _ rfl rfl (op_oload ty3 (.base rfl) rfl rfl ln36_0) ?_
  refine jg_adr _ rfl _ rfl rfl (op_eql (.base rfl) (.base rfl)) ?_
  refine jg_nil ?_
  refine jn_keep [1, 2, 7] [2] (.cons rfl (.cons rfl (.cons rfl .nil))) (.cons rfl .nil) ?_
  refine jn_seq ?_
  refine j_cond rfl (fun h1 => ?_) (fun h1 => ?_)
  · try simp at h1
    refine j_seq ?_
    refine j_region ?_
    refine jg_adr _ rfl _ rfl rfl (op_ofield fld36_1 (.base rfl)) ?_
    refine jg_adr _ rfl _ rfl rfl (op_oload ty3 (.base rfl) rfl rfl ln36_1) ?_
    refine jg_adr _ rfl _ rfl rfl (op_geq (.base rfl) (.base rfl)) ?_
    refine jg_adr _ rfl _ rfl rfl (op_move (.base rfl)) ?_
    refine jg_gd _ _ _ _ _ _ rfl rfl rfl rfl rfl (fun hg => op_ofield fld36_1 (.base rfl)) ?_
    refine jg_gd _ _ _ _ _ _ rfl rfl rfl rfl rfl (fun hg => op_oload ty3 (.gd rfl hg) rfl rfl ln36_1) ?_
    refine jg_gd _ _ _ _ _ _ rfl rfl rfl rfl rfl (fun hg => op_move (.base rfl)) ?_
    refine jg_gd _ _ _ _ _ _ rfl rfl rfl rfl rfl (fun hg => op_len Try.underlying23 (.gd rfl hg)) ?_
    refine jg_gd _ _ _ _ _ _ rfl rfl rfl rfl rfl (fun hg => op_lss (.gd rfl hg) (.gd rfl hg)) ?_
    refine jg_adr _ rfl _ rfl rfl (op_pick_and (.base rfl) (.base rfl) rfl (by intro h; first | (rw [h]; rfl) | simp_all)) ?_
    refine jg_adr _ rfl _ rfl rfl (op_assign (.base rfl)) ?_
    refine jg_nil ?_
    refine jn_keep [4] [] (.cons rfl .nil) .nil ?_
    refine jn_seq (j_ret (jr_seq ?_))
    exact jr_fin1 Try.results36 (res_tmp rfl) rfl (rb (by subst_vars; first | rfl | (simp [validType]; done) | (simp [validType, *]; done) | (rw [Bool.eq_iff_iff]; simp [validType, *]; omega) | (rw [Bool.eq_iff_iff]; simp [validType]; omega) | (unfold validType; simp; omega) | (unfold validType; (repeat' split) <;> first | rfl | omega | (rw [Bool.eq_iff_iff]; simp; omega) | (simp_all; done) | (simp_all; omega) | (exfalso; omega))))
  · try simp at h1
    refine j_skip (jn_seq (j_seq ?_))
    refine j_region ?_
    refine jg_adr _ rfl _ rfl rfl (op_ofield fld36_0 (.base rfl)) ?_
    refine jg_adr _ rfl _ rfl rfl (op_oload ty3 (.base rfl) rfl rfl ln36_0) ?_
    refine jg_adr _ rfl _ rfl rfl (op_geq (.base rfl) (.base rfl)) ?_
    refine jg_adr _ rfl _ rfl rfl (op_move (.base rfl)) ?_
    refine jg_gd _ _ _ _ _ _ rfl rfl rfl rfl rfl (fun hg => op_ofield fld36_0 (.base rfl)) ?_
    refine jg_gd _ _ _ _ _ _ rfl rfl rfl rfl rfl (fun hg => op_oload ty3 (.gd rfl hg) rfl rfl ln36_0) ?_
    refine jg_gd _ _ _ _ _ _ rfl rfl rfl rfl rfl (fun hg => op_leq (.gd rfl hg) (.base rfl)) ?_
    refine jg_adr _ rfl _ rfl rfl (op_pick_and (.base rfl) (.base rfl) rfl (by intro h; first | (rw [h]; rfl) | simp_all)) ?_
    refine jg_adr _ rfl _ rfl rfl (op_move (.base rfl)) ?_
    refine jg_gd _ _ _ _ _ _ rfl rfl rfl rfl rfl (fun hg => op_ofield fld36_1 (.base rfl)) ?_
    refine jg_gd _ _ _ _ _ _ rfl rfl rfl rfl rfl (fun hg => op_oload ty3 (.gd rfl hg) rfl rfl ln36_1) ?_
    refine jg_gd _ _ _ _ _ _ rfl rfl rfl rfl rfl (fun hg => op_eql (.gd rfl hg) (.base rfl)) ?_
    refine jg_adr _ rfl _ rfl rfl (op_pick_and (.base rfl) (.base rfl) rfl (by intro h; first | (rw [h]; rfl) | simp_all)) ?_
    refine jg_adr _ rfl _ rfl rfl (op_assign (.base rfl)) ?_
    refine jg_nil ?_
    refine jn_keep [4] [] (.cons rfl .nil) .nil ?_
    refine jn_seq (j_ret ?_)
    exact jr_fin1 Try.results36 (res_tmp rfl) rfl (rb (by subst_vars; first | rfl | (simp [validType]; done) | (simp [validType, *]; done) | (rw [Bool.eq_iff_iff]; simp [validType, *]; omega) | (rw [Bool.eq_iff_iff]; simp [validType]; omega) | (unfold validType; simp; omega) | (unfold validType; (repeat' split) <;> first | rfl | omega | (rw [Bool.eq_iff_iff]; simp; omega) | (simp_all; done) | (simp_all; omega) | (exfalso; omega))))

theorem rbounds_ok (t : TType) (en : List TEnum) : Ct Try.prog 17 [.tv rType t, .tv (rSlice rEnum) en] (sv22 (bounds t en)) := by
  refine ct_intro Try.func17 rfl rfl Try.ntmps17 rfl rfl ?_
  intro w0 ok0
  refine j_fits 1 fitsEn rfl (fun hf => ?_)
  have hl0 := hf.1
  refine j_seq ?_
  refine j_region ?_
  refine jg_os _ rfl (op_box (.tv (.base rfl)) rfl rfl rfl) ?_
  refine jg_adr _ rfl _ rfl rfl (op_assign (.base rfl)) ?_
  refine jg_adr _ rfl _ rfl rfl (op_assign (.base rfl)) ?_
  refine jg_nil ?_
  refine jn_keep [1, 2] [2] (.cons rfl (.cons rfl .nil)) (.cons rfl .nil) ?_
  refine jn_seq (j_seq (j_seq ?_))
  refine j_region ?_
  refine jg_adr _ rfl _ rfl rfl (op_oload ty36 (.base rfl) rfl rfl (Lens.id _)) ?_
  refine jg_adr _ rfl _ rfl rfl (op_move (.base rfl)) ?_
  refine jg_adr _ rfl _ rfl rfl (op_call (rvalidType_ok _ _) (.cons (.base rfl) (.cons (.base rfl) .nil)) rfl rfl) ?_
  refine jg_adr _ rfl _ rfl rfl (op_not (.base rfl)) ?_
  refine jg_nil ?_
  refine jn_keep [1, 2, 9] [2] (.cons rfl (.cons rfl (.cons rfl .nil))) (.cons rfl .nil) ?_
  refine jn_seq ?_
  refine j_cond rfl (fun h1 => ?_) (fun h1 => ?_)
  · try simp at h1
    refine j_seq ?_
    refine j_region ?_
    refine jg_adr _ rfl _ rfl rfl (op_assign (.base rfl)) ?_
    refine jg_adr _ rfl _ rfl rfl (op_assign (.base rfl)) ?_
    refine jg_nil ?_
    refine jn_keep [4, 5] [] (.cons rfl (.cons rfl .nil)) .nil ?_
    refine jn_seq (j_ret (jr_seq ?_))
    exact jr_fin2 Try.results17 (res_tmp rfl) (res_tmp rfl) ⟨rfl, rfl⟩ (sv22_eq (by subst_vars; first | rfl | (simp [bounds]; done) | (simp [bounds, *]; done) | (unfold bounds; (repeat' split) <;> first | rfl | omega | (simp_all; done) | (simp_all; omega) | (simp_all [allowedM]; done) | (simp_all [allowedM]; omega))))
  · try simp at h1
    refine j_skip (jn_seq (j_seq (j_seq ?_)))
    refine j_region ?_
    refine jg_adr _ rfl _ rfl rfl (op_ofield fld36_0 (.base rfl)) ?_
    refine jg_adr _ rfl _ rfl rfl (op_oload ty3 (.base rfl) rfl rfl ln36_0) ?_
    refine jg_nil ?_
    refine jn_keep [1, 2, 11] [2] (.cons rfl (.cons rfl (.cons rfl .nil))) (.cons rfl .nil) ?_
    refine jn_seq (j_block (j_seq ?_))
    refine j_region ?_
    refine jg_adr _ rfl _ rfl rfl (op_eql (.base rfl) (.base rfl)) ?_
    refine jg_adr _ rfl _ rfl rfl (op_assign (.base rfl)) ?_
    refine jg_nil ?_
    refine jn_keep [1, 2, 11, 12] [2] (.cons rfl (.cons rfl (.cons rfl (.cons rfl .nil)))) (.cons rfl .nil) ?_
    refine jn_seq ?_
    refine j_cond rfl (fun h4 => ?_) (fun h4 => ?_)
    · try simp at h4
      refine j_seq ?_
      refine j_region ?_
      refine jg_adr _ rfl _ rfl rfl (op_assign (.base rfl)) ?_
      refine jg_adr _ rfl _ rfl rfl (op_assign (.base rfl)) ?_
      refine jg_nil ?_
      refine jn_keep [4, 5] [] (.cons rfl (.cons rfl .nil)) .nil ?_
      refine jn_seq (j_ret (jr_blk (jr_seq ?_)))
      exact jr_fin2 Try.results17 (res_tmp rfl) (res_tmp rfl) ⟨rfl, rfl⟩ (sv22_eq (by subst_vars; first | rfl | (simp [bounds]; done) | (simp [bounds, *]; done) | (unfold bounds; (repeat' split) <;> first | rfl | omega | (simp_all; done) | (simp_all; omega) | (simp_all [allowedM]; done) | (simp_all [allowedM]; omega))))
    · try simp at h4
      refine j_seq ?_
      refine j_region ?_
      refine jg_adr _ rfl _ rfl rfl (op_eql (.base rfl) (.base rfl)) ?_
      refine jg_adr _ rfl _ rfl rfl (op_assign (.base rfl)) ?_
      refine jg_nil ?_
      refine jn_keep [1, 2, 11, 14] [2] (.cons rfl (.cons rfl (.cons rfl (.cons rfl .nil)))) (.cons rfl .nil) ?_
      refine jn_seq ?_
      refine j_cond rfl (fun h6 => ?_) (fun h6 => ?_)
      · try simp at h6
        refine j_seq ?_
        refine j_region ?_
        refine jg_adr _ rfl _ rfl rfl (op_assign (.base rfl)) ?_
        refine jg_adr _ rfl _ rfl rfl (op_assign (.base rfl)) ?_
        refine jg_nil ?_
        refine jn_keep [4, 5] [] (.cons rfl (.cons rfl .nil)) .nil ?_
        refine jn_seq (j_ret (jr_blk (jr_seq ?_)))
        exact jr_fin2 Try.results17 (res_tmp rfl) (res_tmp rfl) ⟨rfl, rfl⟩ (sv22_eq (by subst_vars; first | rfl | (simp [bounds]; done) | (simp [bounds, *]; done) | (unfold bounds; (repeat' split) <;> first | rfl | omega | (simp_all; done) | (simp_all; omega) | (simp_all [allowedM]; done) | (simp_all [allowedM]; omega))))
      · try simp at h6
        refine j_seq ?_
        refine j_region ?_
        refine jg_adr _ rfl _ rfl rfl (op_eql (.base rfl) (.base rfl)) ?_
        refine jg_adr _ rfl _ rfl rfl (op_assign (.base rfl)) ?_
        refine jg_nil ?_
        refine jn_keep [1, 2, 11, 16] [2] (.cons rfl (.cons rfl (.cons rfl (.cons rfl .nil)))) (.cons rfl .nil) ?_
        refine jn_seq ?_
        refine j_cond rfl (fun h8 => ?_) (fun h8 => ?_)
        · try simp at h8
          refine j_seq ?_
          refine j_region ?_
          refine jg_adr _ rfl _ rfl rfl (op_assign (.base rfl)) ?_
          refine jg_adr _ rfl _ rfl rfl (op_assign (.base rfl)) ?_
          refine jg_nil ?_
          refine jn_keep [4, 5] [] (.cons rfl (.cons rfl .nil)) .nil ?_
          refine jn_seq (j_ret (jr_blk (jr_seq ?_)))
          exact jr_fin2 Try.results17 (res_tmp rfl) (res_tmp rfl) ⟨rfl, rfl⟩ (sv22_eq (by subst_vars; first | rfl | (simp [bounds]; done) | (simp [bounds, *]; done) | (unfold bounds; (repeat' split) <;> first | rfl | omega | (simp_all; done) | (simp_all; omega) | (simp_all [allowedM]; done) | (simp_all [allowedM]; omega))))
        · try simp at h8
          refine j_seq ?_
          refine j_region ?_
          refine jg_adr _ rfl _ rfl rfl (op_eql (.base rfl) (.base rfl)) ?_
          refine jg_adr _ rfl _ rfl rfl (op_assign (.base rfl)) ?_
          refine jg_nil ?_
          refine jn_keep [1, 2, 11, 18] [2] (.cons rfl (.cons rfl (.cons rfl (.cons rfl .nil)))) (.cons rfl .nil) ?_
          refine jn_seq ?_
          refine j_cond rfl (fun h10 => ?_) (fun h10 => ?_)
          · try simp at h10
            refine j_seq ?_
            refine j_region ?_
            refine jg_adr _ rfl _ rfl rfl (op_assign (.base rfl)) ?_
            refine jg_adr _ rfl _ rfl rfl (op_assign (.base rfl)) ?_
            refine jg_nil ?_
            refine jn_keep [4, 5] [] (.cons rfl (.cons rfl .nil)) .nil ?_
            refine jn_seq (j_ret (jr_blk (jr_seq ?_)))
            exact jr_fin2 Try.results17 (res_tmp rfl) (res_tmp rfl) ⟨rfl, rfl⟩ (sv22_eq (by subst_vars; first | rfl | (simp [bounds]; done) | (simp [bounds, *]; done) | (unfold bounds; (repeat' split) <;> first | rfl | omega | (simp_all; done) | (simp_all; omega) | (simp_all [allowedM]; done) | (simp_all [allowedM]; omega))))
          · try simp at h10
            refine j_seq ?_
            refine j_region ?_
            refine jg_adr _ rfl _ rfl rfl (op_eql (.base rfl) (.base rfl)) ?_
            refine jg_adr _ rfl _ rfl rfl (op_assign (.base rfl)) ?_
            refine jg_nil ?_
            refine jn_keep [1, 2, 20] [2] (.cons rfl (.cons rfl (.cons rfl .nil))) (.cons rfl .nil) ?_
            refine jn_seq ?_
            refine j_cond rfl (fun h12 => ?_) (fun h12 => ?_)
            · try simp at h12
              refine j_seq ?_
              refine j_region ?_
              refine jg_adr _ rfl _ rfl rfl (op_assign (.base rfl)) ?_
              refine jg_adr _ rfl _ rfl rfl (op_assign (.base rfl)) ?_
              refine jg_nil ?_
              refine jn_keep [4, 5] [] (.cons rfl (.cons rfl .nil)) .nil ?_
              refine jn_seq (j_ret (jr_blk (jr_seq ?_)))
              exact jr_fin2 Try.results17 (res_tmp rfl) (res_tmp rfl) ⟨rfl, rfl⟩ (sv22_eq (by subst_vars; first | rfl | (simp [bounds]; done) | (simp [bounds, *]; done) | (unfold bounds; (repeat' split) <;> first | rfl | omega | (simp_all; done) | (simp_all; omega) | (simp_all [allowedM]; done) | (simp_all [allowedM]; omega))))
            · try simp at h12
              refine j_skip (jn_blk (jn_seq (j_seq ?_)))
              obtain ⟨v6, v7, v8⟩ := vt6 h1 h4 h6 h8 h10 h12
              have hm := (hf.2 (en[t.2.toNat]'(by omega)) (List.getElem_mem _)).2.1
              refine j_draw mo (by kernel_rfl) (
                AS.cons _ _ rfl (ga_adr rfl rfl rfl (op_move (.base rfl))) (
                  AS.cons _ _ rfl (ga_adr rfl rfl rfl (op_ofield fld36_1 (.base rfl))) (
                  AS.cons _ _ rfl (ga_adr rfl rfl rfl (op_oload ty3 (.base rfl) rfl rfl ln36_1)) (
                  AS.cons _ _ rfl (ga_adr rfl rfl rfl (op_index Try.underlying23 ty48 (.base rfl) (.base rfl) (Int.toNat_of_nonneg v7).symm (List.getElem?_eq_getElem (by first | omega | (simp; done) | (simp; omega) | (simp at hg; omega))))) (
                  AS.cons _ _ rfl (ga_adr rfl rfl rfl (op_field fld48_1 ln48_1 (.base rfl))) (
                  AS.cons _ _ rfl (ga_adr rfl rfl rfl (op_load ty46 (.base rfl))) (
                  AS.cons _ _ rfl (ga_adr rfl rfl rfl (op_len Try.underlying46 (.base rfl))) (
                  AS.cons _ _ rfl (ga_adr rfl rfl rfl (op_sub (.base rfl) (.base rfl) (w64 (by omega)))) (
                  AS.cons _ _ rfl (ga_adr rfl rfl rfl (op_assign (.base rfl))) (
                  AS.cons _ _ rfl (ga_adr rfl rfl rfl (op_assign (.base rfl))) (
                  AS.nil))))))))))) ?_
              refine jn_keep [4, 5] [] (.cons rfl (.cons rfl .nil)) .nil ?_
              refine jn_seq (j_ret ?_)
              exact jr_fin2 Try.results17 (res_tmp rfl) (res_tmp rfl) ⟨rfl, rfl⟩ (sv22_eq (by unfold bounds; rw [if_neg (by simp [h1]), if_neg h4, if_neg h6, if_neg h8, if_neg h10, if_neg h12]; unfold memb; rw [List.getElem?_eq_getElem (by omega)]; rfl))

theorem ranged_ok (d : TNode) (s : TSignature) : Ct Try.prog 56 [.tv rNode d, .tv rSignature s] (.raw (.bool (ranged d s))) := by
  refine ct_intro Try.func56 rfl rfl Try.ntmps56 rfl rfl ?_
  intro w0 ok0
  refine j_seq ?_
  refine j_region ?_
  refine jg_os _ rfl (op_box (.tv (.base rfl)) rfl rfl rfl) ?_
  refine jg_os _ rfl (op_box (.tv (.base rfl)) rfl rfl rfl) ?_
  refine jg_adr _ rfl _ rfl rfl (op_assign (.base rfl)) ?_
  refine jg_nil ?_
  refine jn_keep [2, 3] [2, 3] (.cons rfl (.cons rfl .nil)) (.cons rfl (.cons rfl .nil)) ?_
  refine jn_seq (j_seq (j_seq ?_))
  refine j_region ?_
  refine jg_adr _ rfl _ rfl rfl (op_ofield fld50_0 (.base rfl)) ?_
  refine jg_adr _ rfl _ rfl rfl (op_oload ty3 (.base rfl) rfl rfl ln50_0) ?_
  refine jg_nil ?_
  refine jn_keep [2, 3, 8] [2, 3] (.cons rfl (.cons rfl (.cons rfl .nil))) (.cons rfl (.cons rfl .nil)) ?_
  refine jn_seq (j_block (j_seq (j_seq ?_)))
  refine j_region ?_
  refine jg_adr _ rfl _ rfl rfl (op_eql (.base rfl) (.base rfl)) ?_
  refine jg_adr _ rfl _ rfl rfl (op_assign (.base rfl)) ?_
  refine jg_nil ?_
  refine jn_keep [2, 3, 8, 9] [2, 3] (.cons rfl (.cons rfl (.cons rfl (.cons rfl .nil)))) (.cons rfl (.cons rfl .nil)) ?_
  refine jn_seq ?_
  refine j_cond rfl (fun h2 => ?_) (fun h2 => ?_)
  · have g2 := h2; try simp at h2
    refine j_skip (jn_seq ?_)
    refine j_cond_t rfl g2 (j_seq ?_)
    refine j_draw mo (by kernel_rfl) (
      AS.cons _ _ rfl (ga_adr rfl rfl rfl (op_ofield fld50_0 (.base rfl))) (
        AS.cons _ _ rfl (ga_adr rfl rfl rfl (op_oload ty3 (.base rfl) rfl rfl ln50_0)) (
        AS.cons _ _ rfl (ga_adr rfl rfl rfl (op_call (rkind_ok _) (.cons (.base rfl) .nil) rfl rfl)) (
        AS.cons _ _ rfl (ga_adr rfl rfl rfl (op_ofield fld27_0 (.base rfl))) (
        AS.cons _ _ rfl (ga_adr rfl rfl rfl (op_oload ty23 (.base rfl) rfl rfl ln27_0)) (
        AS.cons _ _ rfl (ga_adr rfl rfl rfl (op_call (rbounds_ok _ _) (.cons (.base rfl) (.cons (.base rfl) .nil)) rfl rfl)) (
        AS.cons _ _ rfl (ga_adr rfl rfl rfl (op_move (.base rfl))) (
        AS.cons _ _ rfl (ga_adr rfl rfl rfl (op_ext20 (.base rfl))) (
        AS.cons _ _ rfl (ga_adr rfl rfl rfl (op_ext21 (.base rfl))) (
        AS.cons _ _ rfl (ga_adr rfl rfl rfl (op_assign (.base rfl))) (
        AS.cons _ _ rfl (ga_adr rfl rfl rfl (op_assign (.base rfl))) (
        AS.nil)))))))))))) ?_
    refine jn_keep [2, 5, 6] [2] (.cons rfl (.cons rfl (.cons rfl .nil))) (.cons rfl .nil) ?_
    refine jn_seq (j_seq ?_)
    refine j_region ?_
    refine jg_adr _ rfl _ rfl rfl (op_ofield fld50_1 (.base rfl)) ?_
    refine jg_adr _ rfl _ rfl rfl (op_oload ty3 (.base rfl) rfl rfl ln50_1) ?_
    refine jg_adr _ rfl _ rfl rfl (op_move (.base rfl)) ?_
    refine jg_adr _ rfl _ rfl rfl (op_geq (.base rfl) (.base rfl)) ?_
    refine jg_adr _ rfl _ rfl rfl (op_move (.base rfl)) ?_
    refine jg_gd _ _ _ _ _ _ rfl rfl rfl rfl rfl (fun hg => op_ofield fld50_1 (.base rfl)) ?_
    refine jg_gd _ _ _ _ _ _ rfl rfl rfl rfl rfl (fun hg => op_oload ty3 (.gd rfl hg) rfl rfl ln50_1) ?_
    refine jg_gd _ _ _ _ _ _ rfl rfl rfl rfl rfl (fun hg => op_move (.base rfl)) ?_
    refine jg_gd _ _ _ _ _ _ rfl rfl rfl rfl rfl (fun hg => op_leq (.gd rfl hg) (.gd rfl hg)) ?_
    refine jg_adr _ rfl _ rfl rfl (op_pick_and (.base rfl) (.base rfl) rfl (by intro h; first | (rw [h]; rfl) | simp_all)) ?_
    refine jg_adr _ rfl _ rfl rfl (op_assign (.base rfl)) ?_
    refine jg_nil ?_
    refine jn_keep [4] [] (.cons rfl .nil) .nil ?_
    refine jn_seq (j_ret (jr_blk (jr_seq ?_)))
    exact jr_fin1 Try.results56 (res_tmp rfl) rfl (rb (by subst_vars; first | rfl | (simp [ranged]; done) | (simp [ranged, *]; done) | (rw [Bool.eq_iff_iff]; simp [ranged, *]; omega) | (rw [Bool.eq_iff_iff]; simp [ranged]; omega) | (unfold ranged; simp; omega) | (unfold ranged; (repeat' split) <;> first | rfl | omega | (rw [Bool.eq_iff_iff]; simp; omega) | (simp_all; done) | (simp_all; omega) | (exfalso; omega))))
  · have g2 := h2; try simp at h2
    refine j_seq ?_
    refine j_region ?_
    refine jg_adr _ rfl _ rfl rfl (op_eql (.base rfl) (.base rfl)) ?_
    refine jg_adr _ rfl _ rfl rfl (op_assign (.base rfl)) ?_
    refine jg_nil ?_
    refine jn_keep [2, 3, 8, 9] [2, 3] (.cons rfl (.cons rfl (.cons rfl (.cons rfl .nil)))) (.cons rfl (.cons rfl .nil)) ?_
    refine jn_seq ?_
    refine j_cond rfl (fun h3 => ?_) (fun h3 => ?_)
    · have g3 := h3; try simp at h3
      refine j_skip (jn_seq ?_)
      refine j_cond_t rfl g3 (j_seq ?_)
      refine j_draw mo (by kernel_rfl) (
        AS.cons _ _ rfl (ga_adr rfl rfl rfl (op_ofield fld50_0 (.base rfl))) (
          AS.cons _ _ rfl (ga_adr rfl rfl rfl (op_oload ty3 (.base rfl) rfl rfl ln50_0)) (
          AS.cons _ _ rfl (ga_adr rfl rfl rfl (op_call (rkind_ok _) (.cons (.base rfl) .nil) rfl rfl)) (
          AS.cons _ _ rfl (ga_adr rfl rfl rfl (op_ofield fld27_0 (.base rfl))) (
          AS.cons _ _ rfl (ga_adr rfl rfl rfl (op_oload ty23 (.base rfl) rfl rfl ln27_0)) (
          AS.cons _ _ rfl (ga_adr rfl rfl rfl (op_call (rbounds_ok _ _) (.cons (.base rfl) (.cons (.base rfl) .nil)) rfl rfl)) (
          AS.cons _ _ rfl (ga_adr rfl rfl rfl (op_move (.base rfl))) (
          AS.cons _ _ rfl (ga_adr rfl rfl rfl (op_ext20 (.base rfl))) (
          AS.cons _ _ rfl (ga_adr rfl rfl rfl (op_ext21 (.base rfl))) (
          AS.cons _ _ rfl (ga_adr rfl rfl rfl (op_assign (.base rfl))) (
          AS.cons _ _ rfl (ga_adr rfl rfl rfl (op_assign (.base rfl))) (
          AS.nil)))))))))))) ?_
      refine jn_keep [2, 5, 6] [2] (.cons rfl (.cons rfl (.cons rfl .nil))) (.cons rfl .nil) ?_
      refine jn_seq (j_seq ?_)
      refine j_region ?_
      refine jg_adr _ rfl _ rfl rfl (op_ofield fld50_1 (.base rfl)) ?_
      refine jg_adr _ rfl _ rfl rfl (op_oload ty3 (.base rfl) rfl rfl ln50_1) ?_
      refine jg_adr _ rfl _ rfl rfl (op_move (.base rfl)) ?_
      refine jg_adr _ rfl _ rfl rfl (op_geq (.base rfl) (.base rfl)) ?_
      refine jg_adr _ rfl _ rfl rfl (op_move (.base rfl)) ?_
      refine jg_gd _ _ _ _ _ _ rfl rfl rfl rfl rfl (fun hg => op_ofield fld50_1 (.base rfl)) ?_
      refine jg_gd _ _ _ _ _ _ rfl rfl rfl rfl rfl (fun hg => op_oload ty3 (.gd rfl hg) rfl rfl ln50_1) ?_
      refine jg_gd _ _ _ _ _ _ rfl rfl rfl rfl rfl (fun hg => op_move (.base rfl)) ?_
      refine jg_gd _ _ _ _ _ _ rfl rfl rfl rfl rfl (fun hg => op_leq (.gd rfl hg) (.gd rfl hg)) ?_
      refine jg_adr _ rfl _ rfl rfl (op_pick_and (.base rfl) (.base rfl) rfl (by intro h; first | (rw [h]; rfl) | simp_all)) ?_
      refine jg_adr _ rfl _ rfl rfl (op_assign (.base rfl)) ?_
      refine jg_nil ?_
      refine jn_keep [4] [] (.cons rfl .nil) .nil ?_
      refine jn_seq (j_ret (jr_blk (jr_seq ?_)))
      exact jr_fin1 Try.results56 (res_tmp rfl) rfl (rb (by subst_vars; first | rfl | (simp [ranged]; done) | (simp [ranged, *]; done) | (rw [Bool.eq_iff_iff]; simp [ranged, *]; omega) | (rw [Bool.eq_iff_iff]; simp [ranged]; omega) | (unfold ranged; simp; omega) | (unfold ranged; (repeat' split) <;> first | rfl | omega | (rw [Bool.eq_iff_iff]; simp; omega) | (simp_all; done) | (simp_all; omega) | (exfalso; omega))))
    · have g3 := h3; try simp at h3
      refine j_seq ?_
      refine j_region ?_
      refine jg_adr _ rfl _ rfl rfl (op_eql (.base rfl) (.base rfl)) ?_
      refine jg_adr _ rfl _ rfl rfl (op_assign (.base rfl)) ?_
      refine jg_nil ?_
      refine jn_keep [2, 3, 8, 9] [2, 3] (.cons rfl (.cons rfl (.cons rfl (.cons rfl .nil)))) (.cons rfl (.cons rfl .nil)) ?_
      refine jn_seq ?_
      refine j_cond rfl (fun h4 => ?_) (fun h4 => ?_)
      · have g4 := h4; try simp at h4
        refine j_skip (jn_seq ?_)
        refine j_cond_t rfl g4 (j_seq ?_)
        refine j_draw mo (by kernel_rfl) (
          AS.cons _ _ rfl (ga_adr rfl rfl rfl (op_ofield fld50_0 (.base rfl))) (
            AS.cons _ _ rfl (ga_adr rfl rfl rfl (op_oload ty3 (.base rfl) rfl rfl ln50_0)) (
            AS.cons _ _ rfl (ga_adr rfl rfl rfl (op_call (rkind_ok _) (.cons (.base rfl) .nil) rfl rfl)) (
            AS.cons _ _ rfl (ga_adr rfl rfl rfl (op_ofield fld27_0 (.base rfl))) (
            AS.cons _ _ rfl (ga_adr rfl rfl rfl (op_oload ty23 (.base rfl) rfl rfl ln27_0)) (
            AS.cons _ _ rfl (ga_adr rfl rfl rfl (op_call (rbounds_ok _ _) (.cons (.base rfl) (.cons (.base rfl) .nil)) rfl rfl)) (
            AS.cons _ _ rfl (ga_adr rfl rfl rfl (op_move (.base rfl))) (
            AS.cons _ _ rfl (ga_adr rfl rfl rfl (op_ext20 (.base rfl))) (
            AS.cons _ _ rfl (ga_adr rfl rfl rfl (op_ext21 (.base rfl))) (
            AS.cons _ _ rfl (ga_adr rfl rfl rfl (op_assign (.base rfl))) (
            AS.cons _ _ rfl (ga_adr rfl rfl rfl (op_assign (.base rfl))) (
            AS.nil)))))))))))) ?_
        refine jn_keep [2, 5, 6] [2] (.cons rfl (.cons rfl (.cons rfl .nil))) (.cons rfl .nil) ?_
        refine jn_seq (j_seq ?_)
        refine j_region ?_
        refine jg_adr _ rfl _ rfl rfl (op_ofield fld50_1 (.base rfl)) ?_
        refine jg_adr _ rfl _ rfl rfl (op_oload ty3 (.base rfl) rfl rfl ln50_1) ?_
        refine jg_adr _ rfl _ rfl rfl (op_move (.base rfl)) ?_
        refine jg_adr _ rfl _ rfl rfl (op_geq (.base rfl) (.base rfl)) ?_
        refine jg_adr _ rfl _ rfl rfl (op_move (.base rfl)) ?_
        refine jg_gd _ _ _ _ _ _ rfl rfl rfl rfl rfl (fun hg => op_ofield fld50_1 (.base rfl)) ?_
        refine jg_gd _ _ _ _ _ _ rfl rfl rfl rfl rfl (fun hg => op_oload ty3 (.gd rfl hg) rfl rfl ln50_1) ?_
        refine jg_gd _ _ _ _ _ _ rfl rfl rfl rfl rfl (fun hg => op_move (.base rfl)) ?_
        refine jg_gd _ _ _ _ _ _ rfl rfl rfl rfl rfl (fun hg => op_leq (.gd rfl hg) (.gd rfl hg)) ?_
        refine jg_adr _ rfl _ rfl rfl (op_pick_and (.base rfl) (.base rfl) rfl (by intro h; first | (rw [h]; rfl) | simp_all)) ?_
        refine jg_adr _ rfl _ rfl rfl (op_assign (.base rfl)) ?_
        refine jg_nil ?_
        refine jn_keep [4] [] (.cons rfl .nil) .nil ?_
        refine jn_seq (j_ret (jr_blk (jr_seq ?_)))
        exact jr_fin1 Try.results56 (res_tmp rfl) rfl (rb (by subst_vars; first | rfl | (simp [ranged]; done) | (simp [ranged, *]; done) | (rw [Bool.eq_iff_iff]; simp [ranged, *]; omega) | (rw [Bool.eq_iff_iff]; simp [ranged]; omega) | (unfold ranged; simp; omega) | (unfold ranged; (repeat' split) <;> first | rfl | omega | (rw [Bool.eq_iff_iff]; simp; omega) | (simp_all; done) | (simp_all; omega) | (exfalso; omega))))
      · have g4 := h4; try simp at h4
        refine j_seq ?_
        refine j_region ?_
        refine jg_adr _ rfl _ rfl rfl (op_eql (.base rfl) (.base rfl)) ?_
        refine jg_adr _ rfl _ rfl rfl (op_assign (.base rfl)) ?_
        refine jg_nil ?_
        refine jn_keep [2, 3, 8, 9] [2, 3] (.cons rfl (.cons rfl (.cons rfl (.cons rfl .nil)))) (.cons rfl (.cons rfl .nil)) ?_
        refine jn_seq ?_
        refine j_cond rfl (fun h5 => ?_) (fun h5 => ?_)
        · have g5 := h5; try simp at h5
          refine j_skip (jn_seq ?_)
          refine j_cond_t rfl g5 (j_seq ?_)
          refine j_draw mo (by kernel_rfl) (
            AS.cons _ _ rfl (ga_adr rfl rfl rfl (op_ofield fld50_0 (.base rfl))) (
              AS.cons _ _ rfl (ga_adr rfl rfl rfl (op_oload ty3 (.base rfl) rfl rfl ln50_0)) (
              AS.cons _ _ rfl (ga_adr rfl rfl rfl (op_call (rkind_ok _) (.cons (.base rfl) .nil) rfl rfl)) (
              AS.cons _ _ rfl (ga_adr rfl rfl rfl (op_ofield fld27_0 (.base rfl))) (
              AS.cons _ _ rfl (ga_adr rfl rfl rfl (op_oload ty23 (.base rfl) rfl rfl ln27_0)) (
              AS.cons _ _ rfl (ga_adr rfl rfl rfl (op_call (rbounds_ok _ _) (.cons (.base rfl) (.cons (.base rfl) .nil)) rfl rfl)) (
              AS.cons _ _ rfl (ga_adr rfl rfl rfl (op_move (.base rfl))) (
              AS.cons _ _ rfl (ga_adr rfl rfl rfl (op_ext20 (.base rfl))) (
              AS.cons _ _ rfl (ga_adr rfl rfl rfl (op_ext21 (.base rfl))) (
              AS.cons _ _ rfl (ga_adr rfl rfl rfl (op_assign (.base rfl))) (
              AS.cons _ _ rfl (ga_adr rfl rfl rfl (op_assign (.base rfl))) (
              AS.nil)))))))))))) ?_
          refine jn_keep [2, 5, 6] [2] (.cons rfl (.cons rfl (.cons rfl .nil))) (.cons rfl .nil) ?_
          refine jn_seq (j_seq ?_)
          refine j_region ?_
          refine jg_adr _ rfl _ rfl rfl (op_ofield fld50_1 (.base rfl)) ?_
          refine jg_adr _ rfl _ rfl rfl (op_oload ty3 (.base rfl) rfl rfl ln50_1) ?_
          refine jg_adr _ rfl _ rfl rfl (op_move (.base rfl)) ?_
          refine jg_adr _ rfl _ rfl rfl (op_geq (.base rfl) (.base rfl)) ?_
          refine jg_adr _ rfl _ rfl rfl (op_move (.base rfl)) ?_
          refine jg_gd _ _ _ _ _ _ rfl rfl rfl rfl rfl (fun hg => op_ofield fld50_1 (.base rfl)) ?_
          refine jg_gd _ _ _ _ _ _ rfl rfl rfl rfl rfl (fun hg => op_oload ty3 (.gd rfl hg) rfl rfl ln50_1) ?_
          refine jg_gd _ _ _ _ _ _ rfl rfl rfl rfl rfl (fun hg => op_move (.base rfl)) ?_
          refine jg_gd _ _ _ _ _ _ rfl rfl rfl rfl rfl (fun hg => op_leq (.gd rfl hg) (.gd rfl hg)) ?_
          refine jg_adr _ rfl _ rfl rfl (op_pick_and (.base rfl) (.base rfl) rfl (by intro h; first | (rw [h]; rfl) | simp_all)) ?_
          refine jg_adr _ rfl _ rfl rfl (op_assign (.base rfl)) ?_
          refine jg_nil ?_
          refine jn_keep [4] [] (.cons rfl .nil) .nil ?_
          refine jn_seq (j_ret (jr_blk (jr_seq ?_)))
          exact jr_fin1 Try.results56 (res_tmp rfl) rfl (rb (by subst_vars; first | rfl | (simp [ranged]; done) | (simp [ranged, *]; done) | (rw [Bool.eq_iff_iff]; simp [ranged, *]; omega) | (rw [Bool.eq_iff_iff]; simp [ranged]; omega) | (unfold ranged; simp; omega) | (unfold ranged; (repeat' split) <;> first | rfl | omega | (rw [Bool.eq_iff_iff]; simp; omega) | (simp_all; done) | (simp_all; omega) | (exfalso; omega))))
        · have g5 := h5; try simp at h5
          refine j_region ?_
          refine jg_adr _ rfl _ rfl rfl (op_eql (.base rfl) (.base rfl)) ?_
          refine jg_adr _ rfl _ rfl rfl (op_assign (.base rfl)) ?_
          refine jg_nil ?_
          refine jn_keep [2, 3, 8, 9] [2, 3] (.cons rfl (.cons rfl (.cons rfl (.cons rfl .nil)))) (.cons rfl (.cons rfl .nil)) ?_
          refine jn_seq ?_
          refine j_cond rfl (fun h6 => ?_) (fun h6 => ?_)
          · have g6 := h6; try simp at h6
            refine j_seq ?_
            refine j_draw mo (by kernel_rfl) (
              AS.cons _ _ rfl (ga_adr rfl rfl rfl (op_ofield fld50_0 (.base rfl))) (
                AS.cons _ _ rfl (ga_adr rfl rfl rfl (op_oload ty3 (.base rfl) rfl rfl ln50_0)) (
                AS.cons _ _ rfl (ga_adr rfl rfl rfl (op_call (rkind_ok _) (.cons (.base rfl) .nil) rfl rfl)) (
                AS.cons _ _ rfl (ga_adr rfl rfl rfl (op_ofield fld27_0 (.base rfl))) (
                AS.cons _ _ rfl (ga_adr rfl rfl rfl (op_oload ty23 (.base rfl) rfl rfl ln27_0)) (
                AS.cons _ _ rfl (ga_adr rfl rfl rfl (op_call (rbounds_ok _ _) (.cons (.base rfl) (.cons (.base rfl) .nil)) rfl rfl)) (
                AS.cons _ _ rfl (ga_adr rfl rfl rfl (op_move (.base rfl))) (
                AS.cons _ _ rfl (ga_adr rfl rfl rfl (op_ext20 (.base rfl))) (
                AS.cons _ _ rfl (ga_adr rfl rfl rfl (op_ext21 (.base rfl))) (
                AS.cons _ _ rfl (ga_adr rfl rfl rfl (op_assign (.base rfl))) (
                AS.cons _ _ rfl (ga_adr rfl rfl rfl (op_assign (.base rfl))) (
                AS.nil)))))))))))) ?_
            refine jn_keep [2, 5, 6] [2] (.cons rfl (.cons rfl (.cons rfl .nil))) (.cons rfl .nil) ?_
            refine jn_seq (j_seq ?_)
            refine j_region ?_
            refine jg_adr _ rfl _ rfl rfl (op_ofield fld50_1 (.base rfl)) ?_
            refine jg_adr _ rfl _ rfl rfl (op_oload ty3 (.base rfl) rfl rfl ln50_1) ?_
            refine jg_adr _ rfl _ rfl rfl (op_move (.base rfl)) ?_
            refine jg_adr _ rfl _ rfl rfl (op_geq (.base rfl) (.base rfl)) ?_
            refine jg_adr _ rfl _ rfl rfl (op_move (.base rfl)) ?_
            refine jg_gd _ _ _ _ _ _ rfl rfl rfl rfl rfl (fun hg => op_ofield fld50_1 (.base rfl)) ?_
            refine jg_gd _ _ _ _ _ _ rfl rfl rfl rfl rfl (fun hg => op_oload ty3 (.gd rfl hg) rfl rfl ln50_1) ?_
            refine jg_gd _ _ _ _ _ _ rfl rfl rfl rfl rfl (fun hg => op_move (.base rfl)) ?_
            refine jg_gd _ _ _ _ _ _ rfl rfl rfl rfl rfl (fun hg => op_leq (.gd rfl hg) (.gd rfl hg)) ?_
            refine jg_adr _ rfl _ rfl rfl (op_pick_and (.base rfl) (.base rfl) rfl (by intro h; first | (rw [h]; rfl) | simp_all)) ?_
            refine jg_adr _ rfl _ rfl rfl (op_assign (.base rfl)) ?_
            refine jg_nil ?_
            refine jn_keep [4] [] (.cons rfl .nil) .nil ?_
            refine jn_seq (j_ret (jr_blk (jr_seq ?_)))
            exact jr_fin1 Try.results56 (res_tmp rfl) rfl (rb (by subst_vars; first | rfl | (simp [ranged]; done) | (simp [ranged, *]; done) | (rw [Bool.eq_iff_iff]; simp [ranged, *]; omega) | (rw [Bool.eq_iff_iff]; simp [ranged]; omega) | (unfold ranged; simp; omega) | (unfold ranged; (repeat' split) <;> first | rfl | omega | (rw [Bool.eq_iff_iff]; simp; omega) | (simp_all; done) | (simp_all; omega) | (exfalso; omega))))
          · have g6 := h6; try simp at h6
            refine j_seq (j_seq ?_)
            refine j_region ?_
            refine jg_adr _ rfl _ rfl rfl (op_eql (.base rfl) (.base rfl)) ?_
            refine jg_adr _ rfl _ rfl rfl (op_assign (.base rfl)) ?_
            refine jg_nil ?_
            refine jn_keep [2, 8, 34] [2] (.cons rfl (.cons rfl (.cons rfl .nil))) (.cons rfl .nil) ?_
            refine jn_seq ?_
            refine j_cond rfl (fun h9 => ?_) (fun h9 => ?_)
            · have g9 := h9; try simp at h9
              refine j_skip (jn_seq ?_)
              refine j_cond_t rfl g9 (j_seq ?_)
              refine j_region ?_
              refine jg_adr _ rfl _ rfl rfl (op_ofield fld50_1 (.base rfl)) ?_
              refine jg_adr _ rfl _ rfl rfl (op_oload ty3 (.base rfl) rfl rfl ln50_1) ?_
              refine jg_adr _ rfl _ rfl rfl (op_geq (.base rfl) (.base rfl)) ?_
              refine jg_adr _ rfl _ rfl rfl (op_move (.base rfl)) ?_
              refine jg_gd _ _ _ _ _ _ rfl rfl rfl rfl rfl (fun hg => op_ofield fld50_1 (.base rfl)) ?_
              refine jg_gd _ _ _ _ _ _ rfl rfl rfl rfl rfl (fun hg => op_oload ty3 (.gd rfl hg) rfl rfl ln50_1) ?_
              refine jg_gd _ _ _ _ _ _ rfl rfl rfl rfl rfl (fun hg => op_leq (.gd rfl hg) (.base rfl)) ?_
              refine jg_adr _ rfl _ rfl rfl (op_pick_and (.base rfl) (.base rfl) rfl (by intro h; first | (rw [h]; rfl) | simp_all)) ?_
              refine jg_adr _ rfl _ rfl rfl (op_assign (.base rfl)) ?_
              refine jg_nil ?_
              refine jn_keep [4] [] (.cons rfl .nil) .nil ?_
              refine jn_seq (j_ret (jr_blk (jr_seq ?_)))
              exact jr_fin1 Try.results56 (res_tmp rfl) rfl (rb (by subst_vars; first | rfl | (simp [ranged]; done) | (simp [ranged, *]; done) | (rw [Bool.eq_iff_iff]; simp [ranged, *]; omega) | (rw [Bool.eq_iff_iff]; simp [ranged]; omega) | (unfold ranged; simp; omega) | (unfold ranged; (repeat' split) <;> first | rfl | omega | (rw [Bool.eq_iff_iff]; simp; omega) | (simp_all; done) | (simp_all; omega) | (exfalso; omega))))
            · have g9 := h9; try simp at h9
              refine j_seq ?_
              refine j_region ?_
              refine jg_adr _ rfl _ rfl rfl (op_eql (.base rfl) (.base rfl)) ?_
              refine jg_adr _ rfl _ rfl rfl (op_assign (.base rfl)) ?_
              refine jg_nil ?_
              refine jn_keep [2, 8, 34] [2] (.cons rfl (.cons rfl (.cons rfl .nil))) (.cons rfl .nil) ?_
              refine jn_seq ?_
              refine j_cond rfl (fun h10 => ?_) (fun h10 => ?_)
              · have g10 := h10; try simp at h10
                refine j_skip (jn_seq ?_)
                refine j_cond_t rfl g10 (j_seq ?_)
                refine j_region ?_
                refine jg_adr _ rfl _ rfl rfl (op_ofield fld50_1 (.base rfl)) ?_
                refine jg_adr _ rfl _ rfl rfl (op_oload ty3 (.base rfl) rfl rfl ln50_1) ?_
                refine jg_adr _ rfl _ rfl rfl (op_geq (.base rfl) (.base rfl)) ?_
                refine jg_adr _ rfl _ rfl rfl (op_move (.base rfl)) ?_
                refine jg_gd _ _ _ _ _ _ rfl rfl rfl rfl rfl (fun hg => op_ofield fld50_1 (.base rfl)) ?_
                refine jg_gd _ _ _ _ _ _ rfl rfl rfl rfl rfl (fun hg => op_oload ty3 (.gd rfl hg) rfl rfl ln50_1) ?_
                refine jg_gd _ _ _ _ _ _ rfl rfl rfl rfl rfl (fun hg => op_leq (.gd rfl hg) (.base rfl)) ?_
                refine jg_adr _ rfl _ rfl rfl (op_pick_and (.base rfl) (.base rfl) rfl (by intro h; first | (rw [h]; rfl) | simp_all)) ?_
                refine jg_adr _ rfl _ rfl rfl (op_assign (.base rfl)) ?_
                refine jg_nil ?_
                refine jn_keep [4] [] (.cons rfl .nil) .nil ?_
                refine jn_seq (j_ret (jr_blk (jr_seq ?_)))
                exact jr_fin1 Try.results56 (res_tmp rfl) rfl (rb (by subst_vars; first | rfl | (simp [ranged]; done) | (simp [ranged, *]; done) | (rw [Bool.eq_iff_iff]; simp [ranged, *]; omega) | (rw [Bool.eq_iff_iff]; simp [ranged]; omega) | (unfold ranged; simp; omega) | (unfold ranged; (repeat' split) <;> first | rfl | omega | (rw [Bool.eq_iff_iff]; simp; omega) | (simp_all; done) | (simp_all; omega) | (exfalso; omega))))
              · have g10 := h10; try simp at h10
                refine j_region ?_
                refine jg_adr _ rfl _ rfl rfl (op_eql (.base rfl) (.base rfl)) ?_
                refine jg_adr _ rfl _ rfl rfl (op_assign (.base rfl)) ?_
                refine jg_nil ?_
                refine jn_keep [2, 8, 34] [2] (.cons rfl (.cons rfl (.cons rfl .nil))) (.cons rfl .nil) ?_
                refine jn_seq ?_
                refine j_cond rfl (fun h11 => ?_) (fun h11 => ?_)
                · have g11 := h11; try simp at h11
                  refine j_seq ?_
                  refine j_region ?_
                  refine jg_adr _ rfl _ rfl rfl (op_ofield fld50_1 (.base rfl)) ?_
                  refine jg_adr _ rfl _ rfl rfl (op_oload ty3 (.base rfl) rfl rfl ln50_1) ?_
                  refine jg_adr _ rfl _ rfl rfl (op_geq (.base rfl) (.base rfl)) ?_
                  refine jg_adr _ rfl _ rfl rfl (op_move (.base rfl)) ?_
                  refine jg_gd _ _ _ _ _ _ rfl rfl rfl rfl rfl (fun hg => op_ofield fld50_1 (.base rfl)) ?_
                  refine jg_gd _ _ _ _ _ _ rfl rfl rfl rfl rfl (fun hg => op_oload ty3 (.gd rfl hg) rfl rfl ln50_1) ?_
                  refine jg_gd _ _ _ _ _ _ rfl rfl rfl rfl rfl (fun hg => op_leq (.gd rfl hg) (.base rfl)) ?_
                  refine jg_adr _ rfl _ rfl rfl (op_pick_and (.base rfl) (.base rfl) rfl (by intro h; first | (rw [h]; rfl) | simp_all)) ?_
                  refine jg_adr _ rfl _ rfl rfl (op_assign (.base rfl)) ?_
                  refine jg_nil ?_
                  refine jn_keep [4] [] (.cons rfl .nil) .nil ?_
                  refine jn_seq (j_ret (jr_blk (jr_seq ?_)))
                  exact jr_fin1 Try.results56 (res_tmp rfl) rfl (rb (by subst_vars; first | rfl | (simp [ranged]; done) | (simp [ranged, *]; done) | (rw [Bool.eq_iff_iff]; simp [ranged, *]; omega) | (rw [Bool.eq_iff_iff]; simp [ranged]; omega) | (unfold ranged; simp; omega) | (unfold ranged; (repeat' split) <;> first | rfl | omega | (rw [Bool.eq_iff_iff]; simp; omega) | (simp_all; done) | (simp_all; omega) | (exfalso; omega))))
                · have g11 := h11; try simp at h11
                  refine j_seq ?_
                  refine j_region ?_
                  refine jg_adr _ rfl _ rfl rfl (op_eql (.base rfl) (.base rfl)) ?_
                  refine jg_adr _ rfl _ rfl rfl (op_assign (.base rfl)) ?_
                  refine jg_nil ?_
                  refine jn_keep [2, 8, 46] [2] (.cons rfl (.cons rfl (.cons rfl .nil))) (.cons rfl .nil) ?_
                  refine jn_seq ?_
                  refine j_cond rfl (fun h13 => ?_) (fun h13 => ?_)
                  · try simp at h13
                    refine j_seq ?_
                    refine j_region ?_
                    refine jg_adr _ rfl _ rfl rfl (op_ofield fld50_1 (.base rfl)) ?_
                    refine jg_adr _ rfl _ rfl rfl (op_oload ty3 (.base rfl) rfl rfl ln50_1) ?_
                    refine jg_adr _ rfl _ rfl rfl (op_geq (.base rfl) (.base rfl)) ?_
                    refine jg_adr _ rfl _ rfl rfl (op_move (.base rfl)) ?_
                    refine jg_gd _ _ _ _ _ _ rfl rfl rfl rfl rfl (fun hg => op_ofield fld50_1 (.base rfl)) ?_
                    refine jg_gd _ _ _ _ _ _ rfl rfl rfl rfl rfl (fun hg => op_oload ty3 (.gd rfl hg) rfl rfl ln50_1) ?_
                    refine jg_gd _ _ _ _ _ _ rfl rfl rfl rfl rfl (fun hg => op_rem_e (.gd rfl hg) (.base rfl) (by omega) (rem64 (by simp at hg; omega))) ?_
                    refine jg_gd _ _ _ _ _ _ rfl rfl rfl rfl rfl (fun hg => op_leq (.gd rfl hg) (.base rfl)) ?_
                    refine jg_adr _ rfl _ rfl rfl (op_pick_and (.base rfl) (.base rfl) rfl (by intro h; first | (rw [h]; rfl) | simp_all)) ?_
                    refine jg_adr _ rfl _ rfl rfl (op_assign (.base rfl)) ?_
                    refine jg_nil ?_
                    refine jn_keep [4] [] (.cons rfl .nil) .nil ?_
                    refine jn_seq (j_ret (jr_blk (jr_seq ?_)))
                    exact jr_fin1 Try.results56 (res_tmp rfl) rfl (rb (by subst_vars; first | rfl | (simp [ranged]; done) | (simp [ranged, *]; done) | (rw [Bool.eq_iff_iff]; simp [ranged, *]; omega) | (rw [Bool.eq_iff_iff]; simp [ranged]; omega) | (unfold ranged; simp; omega) | (unfold ranged; (repeat' split) <;> first | rfl | omega | (rw [Bool.eq_iff_iff]; simp; omega) | (simp_all; done) | (simp_all; omega) | (exfalso; omega))))
                  · try simp at h13
                    refine j_seq ?_
                    refine j_region ?_
                    refine jg_adr _ rfl _ rfl rfl (op_eql (.base rfl) (.base rfl)) ?_
                    refine jg_adr _ rfl _ rfl rfl (op_assign (.base rfl)) ?_
                    refine jg_nil ?_
                    refine jn_keep [2, 57] [2] (.cons rfl (.cons rfl .nil)) (.cons rfl .nil) ?_
                    refine jn_seq ?_
                    refine j_cond rfl (fun h15 => ?_) (fun h15 => ?_)
                    · try simp at h15
                      refine j_seq ?_
                      refine j_region ?_
                      refine jg_adr _ rfl _ rfl rfl (op_ofield fld50_1 (.base rfl)) ?_
                      refine jg_adr _ rfl _ rfl rfl (op_oload ty3 (.base rfl) rfl rfl ln50_1) ?_
                      refine jg_adr _ rfl _ rfl rfl (op_geq (.base rfl) (.base rfl)) ?_
                      refine jg_adr _ rfl _ rfl rfl (op_assign (.base rfl)) ?_
                      refine jg_nil ?_
                      refine jn_keep [4] [] (.cons rfl .nil) .nil ?_
                      refine jn_seq (j_ret (jr_blk (jr_seq ?_)))
                      exact jr_fin1 Try.results56 (res_tmp rfl) rfl (rb (by subst_vars; first | rfl | (simp [ranged]; done) | (simp [ranged, *]; done) | (rw [Bool.eq_iff_iff]; simp [ranged, *]; omega) | (rw [Bool.eq_iff_iff]; simp [ranged]; omega) | (unfold ranged; simp; omega) | (unfold ranged; (repeat' split) <;> first | rfl | omega | (rw [Bool.eq_iff_iff]; simp; omega) | (simp_all; done) | (simp_all; omega) | (exfalso; omega))))
                    · try simp at h15
                      refine j_skip (jn_blk (jn_seq (j_seq ?_)))
                      refine j_region ?_
                      refine jg_adr _ rfl _ rfl rfl (op_assign (.base rfl)) ?_
                      refine jg_nil ?_
                      refine jn_keep [4] [] (.cons rfl .nil) .nil ?_
                      refine jn_seq (j_ret ?_)
                      exact jr_fin1 Try.results56 (res_tmp rfl) rfl (rb (by subst_vars; first | rfl | (simp [ranged]; done) | (simp [ranged, *]; done) | (rw [Bool.eq_iff_iff]; simp [ranged, *]; omega) | (rw [Bool.eq_iff_iff]; simp [ranged]; omega) | (unfold ranged; simp; omega) | (unfold ranged; (repeat' split) <;> first | rfl | omega | (rw [Bool.eq_iff_iff]; simp; omega) | (simp_all; done) | (simp_all; omega) | (exfalso; omega))))

end Go.Proofs.Ytgoggdaohdablaa
