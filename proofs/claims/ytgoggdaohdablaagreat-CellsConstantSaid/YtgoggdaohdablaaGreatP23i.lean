import Derived.Test.YtgoggdaohdablaaGreatP23h
import Derived.Test.YtgoggdaohdablaaGreatEng12
namespace Go.Proofs.YtgoggdaohdablaaGreat
open Go.Eng
set_option maxRecDepth 100000
set_option maxHeartbeats 4000000
set_option linter.unusedVariables false
set_option linter.unusedSimpArgs false

theorem rvalidType_ok (t : TType) (en : List TEnum) : Ct Tryz.prog 32 [.tv rType t, .tv (rSlice rEnum) en] (.raw (.bool (validType t en))) := by
  refine ct_intro Tryz.func32 rfl rfl Tryz.ntmps32 rfl rfl ?_
  intro w0 ok0
  refine j_len 1 rfl (fun hl0 => ?_)
  refine j_seq ?_
  refine j_region ?_
  refine jg_os _ rfl (op_box (.tv (.base rfl)) rfl rfl rfl) ?_
  refine jg_adr _ rfl _ rfl rfl (op_assign (.base rfl)) ?_
  refine jg_nil ?_
  refine jn_keep [1, 2] [2] (.cons rfl (.cons rfl .nil)) (.cons rfl .nil) ?_
  refine jn_seq (j_seq (j_seq ?_))
  refine j_region ?_
  refine jg_adr _ rfl _ rfl rfl (op_ofield fld37_0 (.base rfl)) ?_
  refine jg_adr _ rfl _ rfl rfl (op_oload ty3 (.base rfl) rfl rfl ln37_0) ?_
  refine jg_adr _ rfl _ rfl rfl (op_eql (.base rfl) (.base rfl)) ?_
  refine jg_nil ?_
  refine jn_keep [1, 2, 7] [2] (.cons rfl (.cons rfl (.cons rfl .nil))) (.cons rfl .nil) ?_
  refine jn_seq ?_
  refine j_cond rfl (fun h1 => ?_) (fun h1 => ?_)
  · try simp at h1
    refine j_seq ?_
    refine j_region ?_
    refine jg_adr _ rfl _ rfl rfl (op_ofield fld37_1 (.base rfl)) ?_
    refine jg_adr _ rfl _ rfl rfl (op_oload ty3 (.base rfl) rfl rfl ln37_1) ?_
    refine jg_adr _ rfl _ rfl rfl (op_geq (.base rfl) (.base rfl)) ?_
    refine jg_adr _ rfl _ rfl rfl (op_move (.base rfl)) ?_
    refine jg_gd _ _ _ _ _ _ rfl rfl rfl rfl rfl (fun hg => op_ofield fld37_1 (.base rfl)) ?_
    refine jg_gd _ _ _ _ _ _ rfl rfl rfl rfl rfl (fun hg => op_oload ty3 (.gd rfl hg) rfl rfl ln37_1) ?_
    refine jg_gd _ _ _ _ _ _ rfl rfl rfl rfl rfl (fun hg => op_move (.base rfl)) ?_
    refine jg_gd _ _ _ _ _ _ rfl rfl rfl rfl rfl (fun hg => op_len Tryz.underlying23 (.gd rfl hg)) ?_
    refine jg_gd _ _ _ _ _ _ rfl rfl rfl rfl rfl (fun hg => op_lss (.gd rfl hg) (.gd rfl hg)) ?_
    refine jg_adr _ rfl _ rfl rfl (op_pick_and (.base rfl) (.base rfl) rfl (by intro h; first | (rw [h]; rfl) | (rw [hg, h]; rfl) | (rw [h, hg]; rfl) | simp_all)) ?_
    refine jg_adr _ rfl _ rfl rfl (op_assign (.base rfl)) ?_
    refine jg_nil ?_
    refine jn_keep [4] [] (.cons rfl .nil) .nil ?_
    refine jn_seq (j_ret (jr_seq ?_))
    exact jr_fin1 Tryz.results32 (res_tmp rfl) rfl (rb (by subst_vars; first | rfl | (simp [validType]; done) | (simp [validType, *]; done) | (rw [Bool.eq_iff_iff]; simp [validType, *]; omega) | (rw [Bool.eq_iff_iff]; simp [validType]; omega) | (unfold validType; simp; omega) | (unfold validType; (repeat' split) <;> first | rfl | omega | (rw [Bool.eq_iff_iff]; simp; omega) | (simp_all; done) | (simp_all; omega) | (exfalso; omega))))
  · try simp at h1
    refine j_skip (jn_seq (j_seq ?_))
    refine j_region ?_
    refine jg_adr _ rfl _ rfl rfl (op_ofield fld37_0 (.base rfl)) ?_
    refine jg_adr _ rfl _ rfl rfl (op_oload ty3 (.base rfl) rfl rfl ln37_0) ?_
    refine jg_adr _ rfl _ rfl rfl (op_geq (.base rfl) (.base rfl)) ?_
    refine jg_adr _ rfl _ rfl rfl (op_move (.base rfl)) ?_
    refine jg_gd _ _ _ _ _ _ rfl rfl rfl rfl rfl (fun hg => op_ofield fld37_0 (.base rfl)) ?_
    refine jg_gd _ _ _ _ _ _ rfl rfl rfl rfl rfl (fun hg => op_oload ty3 (.gd rfl hg) rfl rfl ln37_0) ?_
    refine jg_gd _ _ _ _ _ _ rfl rfl rfl rfl rfl (fun hg => op_leq (.gd rfl hg) (.base rfl)) ?_
    refine jg_adr _ rfl _ rfl rfl (op_pick_and (.base rfl) (.base rfl) rfl (by intro h; first | (rw [h]; rfl) | (rw [hg, h]; rfl) | (rw [h, hg]; rfl) | simp_all)) ?_
    refine jg_adr _ rfl _ rfl rfl (op_move (.base rfl)) ?_
    refine jg_gd _ _ _ _ _ _ rfl rfl rfl rfl rfl (fun hg => op_ofield fld37_1 (.base rfl)) ?_
    refine jg_gd _ _ _ _ _ _ rfl rfl rfl rfl rfl (fun hg => op_oload ty3 (.gd rfl hg) rfl rfl ln37_1) ?_
    refine jg_gd _ _ _ _ _ _ rfl rfl rfl rfl rfl (fun hg => op_eql (.gd rfl hg) (.base rfl)) ?_
    refine jg_adr _ rfl _ rfl rfl (op_pick_and (.base rfl) (.base rfl) rfl (by intro h; first | (rw [h]; rfl) | (rw [hg, h]; rfl) | (rw [h, hg]; rfl) | simp_all)) ?_
    refine jg_adr _ rfl _ rfl rfl (op_assign (.base rfl)) ?_
    refine jg_nil ?_
    refine jn_keep [4] [] (.cons rfl .nil) .nil ?_
    refine jn_seq (j_ret ?_)
    exact jr_fin1 Tryz.results32 (res_tmp rfl) rfl (rb (by subst_vars; first | rfl | (simp [validType]; done) | (simp [validType, *]; done) | (rw [Bool.eq_iff_iff]; simp [validType, *]; omega) | (rw [Bool.eq_iff_iff]; simp [validType]; omega) | (unfold validType; simp; omega) | (unfold validType; (repeat' split) <;> first | rfl | omega | (rw [Bool.eq_iff_iff]; simp; omega) | (simp_all; done) | (simp_all; omega) | (exfalso; omega))))

theorem rbounds_ok (t : TType) (en : List TEnum) : Ct Tryz.prog 48 [.tv rType t, .tv (rSlice rEnum) en] (sv22 (bounds t en)) := by
  refine ct_intro Tryz.func48 rfl rfl Tryz.ntmps48 rfl rfl ?_
  intro w0 ok0
  refine j_fits 1 fitsEn rfl (fun hf => ?_)
  have hl0 := hf.1
  refine j_seq ?_
  refine j_region ?_
  refine jg_os _ rfl (op_box (.tv (.base rfl)) rfl rfl rfl) ?_
  refine jg_adr _ rfl _ rfl rfl (op_assign (.base rfl)) ?_
  refine jg_adr _ rfl _ rfl rfl (op_assign (.base rfl)) ?_
  refine jg_nil ?_
  refine jn_keep [1, 2] [2] (.cons rfl (.cons rfl .nil)) (.cons rfl .nil) ?_
  refine jn_seq (j_seq (j_seq ?_))
  refine j_region ?_
  refine jg_adr _ rfl _ rfl rfl (op_oload ty37 (.base rfl) rfl rfl (Lens.id _)) ?_
  refine jg_adr _ rfl _ rfl rfl (op_move (.base rfl)) ?_
  refine jg_adr _ rfl _ rfl rfl (op_call (rvalidType_ok _ _) (.cons (.base rfl) (.cons (.base rfl) .nil)) rfl rfl) ?_
  refine jg_adr _ rfl _ rfl rfl (op_not (.base rfl)) ?_
  refine jg_nil ?_
  refine jn_keep [1, 2, 9] [2] (.cons rfl (.cons rfl (.cons rfl .nil))) (.cons rfl .nil) ?_
  refine jn_seq ?_
  refine j_cond rfl (fun h1 => ?_) (fun h1 => ?_)
  · try simp at h1
    refine j_seq ?_
    refine j_region ?_
    refine jg_adr _ rfl _ rfl rfl (op_assign (.base rfl)) ?_
    refine jg_adr _ rfl _ rfl rfl (op_assign (.base rfl)) ?_
    refine jg_nil ?_
    refine jn_keep [4, 5] [] (.cons rfl (.cons rfl .nil)) .nil ?_
    refine jn_seq (j_ret (jr_seq ?_))
    exact jr_fin2 Tryz.results48 (res_tmp rfl) (res_tmp rfl) ⟨rfl, rfl⟩ (sv22_eq (by subst_vars; first | rfl | (simp [bounds]; done) | (simp [bounds, *]; done) | (unfold bounds; (repeat' split) <;> first | rfl | omega | (simp_all; done) | (simp_all; omega) | (simp_all [allowedM]; done) | (simp_all [allowedM]; omega))))
  · try simp at h1
    refine j_skip (jn_seq (j_seq (j_seq ?_)))
    refine j_region ?_
    refine jg_adr _ rfl _ rfl rfl (op_ofield fld37_0 (.base rfl)) ?_
    refine jg_adr _ rfl _ rfl rfl (op_oload ty3 (.base rfl) rfl rfl ln37_0) ?_
    refine jg_nil ?_
    refine jn_keep [1, 2, 11] [2] (.cons rfl (.cons rfl (.cons rfl .nil))) (.cons rfl .nil) ?_
    refine jn_seq (j_block (j_seq ?_))
    refine j_region ?_
    refine jg_adr _ rfl _ rfl rfl (op_eql (.base rfl) (.base rfl)) ?_
    refine jg_adr _ rfl _ rfl rfl (op_assign (.base rfl)) ?_
    refine jg_nil ?_
    refine jn_keep [1, 2, 11, 12] [2] (.cons rfl (.cons rfl (.cons rfl (.cons rfl .nil)))) (.cons rfl .nil) ?_
    refine jn_seq ?_
    refine j_cond rfl (fun h4 => ?_) (fun h4 => ?_)
    · try simp at h4
      refine j_seq ?_
      refine j_region ?_
      refine jg_adr _ rfl _ rfl rfl (op_assign (.base rfl)) ?_
      refine jg_adr _ rfl _ rfl rfl (op_assign (.base rfl)) ?_
      refine jg_nil ?_
      refine jn_keep [4, 5] [] (.cons rfl (.cons rfl .nil)) .nil ?_
      refine jn_seq (j_ret (jr_blk (jr_seq ?_)))
      exact jr_fin2 Tryz.results48 (res_tmp rfl) (res_tmp rfl) ⟨rfl, rfl⟩ (sv22_eq (by subst_vars; first | rfl | (simp [bounds]; done) | (simp [bounds, *]; done) | (unfold bounds; (repeat' split) <;> first | rfl | omega | (simp_all; done) | (simp_all; omega) | (simp_all [allowedM]; done) | (simp_all [allowedM]; omega))))
    · try simp at h4
      refine j_seq ?_
      refine j_region ?_
      refine jg_adr _ rfl _ rfl rfl (op_eql (.base rfl) (.base rfl)) ?_
      refine jg_adr _ rfl _ rfl rfl (op_assign (.base rfl)) ?_
      refine jg_nil ?_
      refine jn_keep [1, 2, 11, 14] [2] (.cons rfl (.cons rfl (.cons rfl (.cons rfl .nil)))) (.cons rfl .nil) ?_
      refine jn_seq ?_
      refine j_cond rfl (fun h6 => ?_) (fun h6 => ?_)
      · try simp at h6
        refine j_seq ?_
        refine j_region ?_
        refine jg_adr _ rfl _ rfl rfl (op_assign (.base rfl)) ?_
        refine jg_adr _ rfl _ rfl rfl (op_assign (.base rfl)) ?_
        refine jg_nil ?_
        refine jn_keep [4, 5] [] (.cons rfl (.cons rfl .nil)) .nil ?_
        refine jn_seq (j_ret (jr_blk (jr_seq ?_)))
        exact jr_fin2 Tryz.results48 (res_tmp rfl) (res_tmp rfl) ⟨rfl, rfl⟩ (sv22_eq (by subst_vars; first | rfl | (simp [bounds]; done) | (simp [bounds, *]; done) | (unfold bounds; (repeat' split) <;> first | rfl | omega | (simp_all; done) | (simp_all; omega) | (simp_all [allowedM]; done) | (simp_all [allowedM]; omega))))
      · try simp at h6
        refine j_seq ?_
        refine j_region ?_
        refine jg_adr _ rfl _ rfl rfl (op_eql (.base rfl) (.base rfl)) ?_
        refine jg_adr _ rfl _ rfl rfl (op_assign (.base rfl)) ?_
        refine jg_nil ?_
        refine jn_keep [1, 2, 11, 16] [2] (.cons rfl (.cons rfl (.cons rfl (.cons rfl .nil)))) (.cons rfl .nil) ?_
        refine jn_seq ?_
        refine j_cond rfl (fun h8 => ?_) (fun h8 => ?_)
        · try simp at h8
          refine j_seq ?_
          refine j_region ?_
          refine jg_adr _ rfl _ rfl rfl (op_assign (.base rfl)) ?_
          refine jg_adr _ rfl _ rfl rfl (op_assign (.base rfl)) ?_
          refine jg_nil ?_
          refine jn_keep [4, 5] [] (.cons rfl (.cons rfl .nil)) .nil ?_
          refine jn_seq (j_ret (jr_blk (jr_seq ?_)))
          exact jr_fin2 Tryz.results48 (res_tmp rfl) (res_tmp rfl) ⟨rfl, rfl⟩ (sv22_eq (by subst_vars; first | rfl | (simp [bounds]; done) | (simp [bounds, *]; done) | (unfold bounds; (repeat' split) <;> first | rfl | omega | (simp_all; done) | (simp_all; omega) | (simp_all [allowedM]; done) | (simp_all [allowedM]; omega))))
        · try simp at h8
          refine j_seq ?_
          refine j_region ?_
          refine jg_adr _ rfl _ rfl rfl (op_eql (.base rfl) (.base rfl)) ?_
          refine jg_adr _ rfl _ rfl rfl (op_assign (.base rfl)) ?_
          refine jg_nil ?_
          refine jn_keep [1, 2, 11, 18] [2] (.cons rfl (.cons rfl (.cons rfl (.cons rfl .nil)))) (.cons rfl .nil) ?_
          refine jn_seq ?_
          refine j_cond rfl (fun h10 => ?_) (fun h10 => ?_)
          · try simp at h10
            refine j_seq ?_
            refine j_region ?_
            refine jg_adr _ rfl _ rfl rfl (op_assign (.base rfl)) ?_
            refine jg_adr _ rfl _ rfl rfl (op_assign (.base rfl)) ?_
            refine jg_nil ?_
            refine jn_keep [4, 5] [] (.cons rfl (.cons rfl .nil)) .nil ?_
            refine jn_seq (j_ret (jr_blk (jr_seq ?_)))
            exact jr_fin2 Tryz.results48 (res_tmp rfl) (res_tmp rfl) ⟨rfl, rfl⟩ (sv22_eq (by subst_vars; first | rfl | (simp [bounds]; done) | (simp [bounds, *]; done) | (unfold bounds; (repeat' split) <;> first | rfl | omega | (simp_all; done) | (simp_all; omega) | (simp_all [allowedM]; done) | (simp_all [allowedM]; omega))))
          · try simp at h10
            refine j_seq ?_
            refine j_region ?_
            refine jg_adr _ rfl _ rfl rfl (op_eql (.base rfl) (.base rfl)) ?_
            refine jg_adr _ rfl _ rfl rfl (op_assign (.base rfl)) ?_
            refine jg_nil ?_
            refine jn_keep [1, 2, 20] [2] (.cons rfl (.cons rfl (.cons rfl .nil))) (.cons rfl .nil) ?_
            refine jn_seq ?_
            refine j_cond rfl (fun h12 => ?_) (fun h12 => ?_)
            · try simp at h12
              refine j_seq ?_
              refine j_region ?_
              refine jg_adr _ rfl _ rfl rfl (op_assign (.base rfl)) ?_
              refine jg_adr _ rfl _ rfl rfl (op_assign (.base rfl)) ?_
              refine jg_nil ?_
              refine jn_keep [4, 5] [] (.cons rfl (.cons rfl .nil)) .nil ?_
              refine jn_seq (j_ret (jr_blk (jr_seq ?_)))
              exact jr_fin2 Tryz.results48 (res_tmp rfl) (res_tmp rfl) ⟨rfl, rfl⟩ (sv22_eq (by subst_vars; first | rfl | (simp [bounds]; done) | (simp [bounds, *]; done) | (unfold bounds; (repeat' split) <;> first | rfl | omega | (simp_all; done) | (simp_all; omega) | (simp_all [allowedM]; done) | (simp_all [allowedM]; omega))))
            · try simp at h12
              refine j_skip (jn_blk (jn_seq (j_seq ?_)))
              obtain ⟨v6, v7, v8⟩ := vt6 h1 h4 h6 h8 h10 h12
              have hm := (hf.2 (en[t.2.toNat]'(by omega)) (List.getElem_mem _)).2.1
              refine j_draw mo (by kernel_rfl) (
                AS.cons _ _ rfl (ga_adr rfl rfl rfl (op_move (.base rfl))) (
                  AS.cons _ _ rfl (ga_adr rfl rfl rfl (op_ofield fld37_1 (.base rfl))) (
                  AS.cons _ _ rfl (ga_adr rfl rfl rfl (op_oload ty3 (.base rfl) rfl rfl ln37_1)) (
                  AS.cons _ _ rfl (ga_adr rfl rfl rfl (op_index Tryz.underlying23 ty52 (.base rfl) (.base rfl) (Int.toNat_of_nonneg v7).symm (List.getElem?_eq_getElem (by first | omega | (simp; done) | (simp; omega) | (simp at hg; omega))))) (
                  AS.cons _ _ rfl (ga_adr rfl rfl rfl (op_field fld52_1 ln52_1 (.base rfl))) (
                  AS.cons _ _ rfl (ga_adr rfl rfl rfl (op_load ty50 (.base rfl))) (
                  AS.cons _ _ rfl (ga_adr rfl rfl rfl (op_len Tryz.underlying50 (.base rfl))) (
                  AS.cons _ _ rfl (ga_adr rfl rfl rfl (op_sub (.base rfl) (.base rfl) (w64 (by omega)))) (
                  AS.cons _ _ rfl (ga_adr rfl rfl rfl (op_assign (.base rfl))) (
                  AS.cons _ _ rfl (ga_adr rfl rfl rfl (op_assign (.base rfl))) (
                  AS.nil))))))))))) ?_
              refine jn_keep [4, 5] [] (.cons rfl (.cons rfl .nil)) .nil ?_
              refine jn_seq (j_ret ?_)
              exact jr_fin2 Tryz.results48 (res_tmp rfl) (res_tmp rfl) ⟨rfl, rfl⟩ (sv22_eq (by unfold bounds; rw [if_neg (by simp [h1]), if_neg h4, if_neg h6, if_neg h8, if_neg h10, if_neg h12]; unfold memb; rw [List.getElem?_eq_getElem (by omega)]; rfl))

theorem rtype_ok (v : TValue) : Ct Tryz.prog 33 [.tv rValue v] (.tv rType (v.1, v.2.1)) := by
  refine ct_intro Tryz.func33 rfl rfl Tryz.ntmps33 rfl rfl ?_
  intro w0 ok0
  refine j_seq ?_
  refine j_region ?_
  refine jg_os _ rfl (op_box (.tv (.base rfl)) rfl rfl rfl) ?_
  refine jg_os _ rfl (op_alloc _ z37 rfl rfl rfl) ?_
  refine jg_nil ?_
  refine jn_keep [1, 2] [1, 2] (.cons rfl (.cons rfl .nil)) (.cons rfl (.cons rfl .nil)) ?_
  refine jn_seq (j_seq ?_)
  refine j_region ?_
  refine jg_adr _ rfl _ rfl rfl (op_ofield fld42_0 (.base rfl)) ?_
  refine jg_adr _ rfl _ rfl rfl (op_oload ty3 (.base rfl) rfl rfl ln42_0) ?_
  refine jg_adr _ rfl _ rfl rfl (op_ofield fld42_1 (.base rfl)) ?_
  refine jg_adr _ rfl _ rfl rfl (op_oload ty3 (.base rfl) rfl rfl ln42_1) ?_
  refine jg_adr _ rfl _ rfl rfl (op_build z37 rfl pl37 (.cons (rt' := (rInt .i64)) rfl ln37_0 (.raw (.base rfl) rfl) (.cons (rt' := (rInt .i64)) rfl ln37_1 (.raw (.base rfl) rfl) .nil))) ?_
  refine jg_os _ rfl (op_ostore ty37 (.base rfl) rfl rfl (Lens.id _) (.tv (.base rfl))) ?_
  refine jg_nil ?_
  refine jn_keep [2] [2] (.cons rfl .nil) (.cons rfl .nil) ?_
  refine jn_seq (j_ret ?_)
  exact jr_fin1 Tryz.results33 (res_cell ty37 rfl rfl rfl (Lens.id rType)) rfl rfl


def inB (n : Int) (t : TType) (en : List TEnum) : Bool := decide ((bounds t en).1 ≤ n) && decide (n ≤ (bounds t en).2)
def valid9 (v : TValue) (en : List TEnum) : Bool := validType (v.1, v.2.1) en && inB v.2.2 (v.1, v.2.1) en

theorem rin_ok (n : Int) (t : TType) (en : List TEnum) : Ct Tryz.prog 34 [.raw (.int .i64 n), .tv rType t, .tv (rSlice rEnum) en] (.raw (.bool (inB n t en))) := by
  refine ct_intro Tryz.func34 rfl rfl Tryz.ntmps34 rfl rfl ?_
  intro w0 ok0
  refine j_seq ?_
  refine j_region ?_
  refine jg_os _ rfl (op_box (.tv (.base rfl)) rfl rfl rfl) ?_
  refine jg_adr _ rfl _ rfl rfl (op_assign (.base rfl)) ?_
  refine jg_nil ?_
  refine jn_keep [0, 2, 4] [4] (.cons rfl (.cons rfl (.cons rfl .nil))) (.cons rfl .nil) ?_
  refine jn_seq (j_seq ?_)
  refine j_region ?_
  refine jg_adr _ rfl _ rfl rfl (op_oload ty37 (.base rfl) rfl rfl (Lens.id _)) ?_
  refine jg_adr _ rfl _ rfl rfl (op_move (.base rfl)) ?_
  refine jg_adr _ rfl _ rfl rfl (op_call (rbounds_ok _ _) (.cons (.base rfl) (.cons (.base rfl) .nil)) rfl rfl) ?_
  refine jg_adr _ rfl _ rfl rfl (op_move (.base rfl)) ?_
  refine jg_adr _ rfl _ rfl rfl (op_ext20 (.base rfl)) ?_
  refine jg_adr _ rfl _ rfl rfl (op_ext21 (.base rfl)) ?_
  refine jg_adr _ rfl _ rfl rfl (op_assign (.base rfl)) ?_
  refine jg_adr _ rfl _ rfl rfl (op_assign (.base rfl)) ?_
  refine jg_nil ?_
  refine jn_keep [0, 7, 8] [] (.cons rfl (.cons rfl (.cons rfl .nil))) .nil ?_
  refine jn_seq (j_seq ?_)
  refine j_region ?_
  refine jg_adr _ rfl _ rfl rfl (op_move (.base rfl)) ?_
  refine jg_adr _ rfl _ rfl rfl (op_move (.base rfl)) ?_
  refine jg_adr _ rfl _ rfl rfl (op_leq (.base rfl) (.base rfl)) ?_
  refine jg_adr _ rfl _ rfl rfl (op_move (.base rfl)) ?_
  refine jg_gd _ _ _ _ _ _ rfl rfl rfl rfl rfl (fun hg => op_move (.base rfl)) ?_
  refine jg_gd _ _ _ _ _ _ rfl rfl rfl rfl rfl (fun hg => op_move (.base rfl)) ?_
  refine jg_gd _ _ _ _ _ _ rfl rfl rfl rfl rfl (fun hg => op_leq (.gd rfl hg) (.gd rfl hg)) ?_
  refine jg_adr _ rfl _ rfl rfl (op_pick_and (.base rfl) (.base rfl) rfl (by intro h; first | (rw [h]; rfl) | (rw [hg, h]; rfl) | (rw [h, hg]; rfl) | simp_all)) ?_
  refine jg_adr _ rfl _ rfl rfl (op_assign (.base rfl)) ?_
  refine jg_nil ?_
  refine jn_keep [6] [] (.cons rfl .nil) .nil ?_
  refine jn_seq (j_ret ?_)
  exact jr_fin1 Tryz.results34 (res_tmp rfl) rfl (rb (by first | rfl | (unfold inB; rfl) | (simp [inB]; done)))

theorem rvalid9_ok (v : TValue) (en : List TEnum) : Ct Tryz.prog 19 [.tv rValue v, .tv (rSlice rEnum) en] (.raw (.bool (valid9 v en))) := by
  refine ct_intro Tryz.func19 rfl rfl Tryz.ntmps19 rfl rfl ?_
  intro w0 ok0
  refine j_seq ?_
  refine j_region ?_
  refine jg_os _ rfl (op_box (.tv (.base rfl)) rfl rfl rfl) ?_
  refine jg_adr _ rfl _ rfl rfl (op_assign (.base rfl)) ?_
  refine jg_nil ?_
  refine jn_keep [1, 2] [2] (.cons rfl (.cons rfl .nil)) (.cons rfl .nil) ?_
  refine jn_seq (j_seq ?_)
  refine j_draw mo (by kernel_rfl) (
    AS.cons _ _ rfl (ga_adr rfl rfl rfl (op_oload ty42 (.base rfl) rfl rfl (Lens.id _))) (
      AS.cons _ _ rfl (ga_adr rfl rfl rfl (op_call (rtype_ok _) (.cons (.base rfl) .nil) rfl rfl)) (
      AS.cons _ _ rfl (ga_adr rfl rfl rfl (op_move (.base rfl))) (
      AS.cons _ _ rfl (ga_adr rfl rfl rfl (op_call (rvalidType_ok _ _) (.cons (.base rfl) (.cons (.base rfl) .nil)) rfl rfl)) (
      AS.cons _ _ rfl (ga_adr rfl rfl rfl (op_move (.base rfl))) (
      AS.cons _ _ rfl (ga_gd _ _ _ _ rfl rfl rfl rfl rfl (fun hg => op_ofield fld42_2 (.base rfl))) (
      AS.cons _ _ rfl (ga_gd _ _ _ _ rfl rfl rfl rfl rfl (fun hg => op_oload ty3 (.gd rfl hg) rfl rfl ln42_2)) (
      AS.cons _ _ rfl (ga_gd _ _ _ _ rfl rfl rfl rfl rfl (fun hg => op_oload ty42 (.base rfl) rfl rfl (Lens.id _))) (
      AS.cons _ _ rfl (ga_gd _ _ _ _ rfl rfl rfl rfl rfl (fun hg => op_call (rtype_ok _) (.cons (.gd rfl hg) .nil) rfl rfl)) (
      AS.cons _ _ rfl (ga_gd _ _ _ _ rfl rfl rfl rfl rfl (fun hg => op_move (.base rfl))) (
      AS.cons _ _ rfl (ga_gd _ _ _ _ rfl rfl rfl rfl rfl (fun hg => op_call (rin_ok _ _ _) (.cons (.gd rfl hg) (.cons (.gd rfl hg) (.cons (.gd rfl hg) .nil))) rfl rfl)) (
      AS.cons _ _ rfl (ga_adr rfl rfl rfl (op_pick_and (.base rfl) (.base rfl) rfl (by intro h; first | (rw [h]; rfl) | (rw [hg, h]; rfl) | (rw [h, hg]; rfl) | simp_all))) (
      AS.cons _ _ rfl (ga_adr rfl rfl rfl (op_assign (.base rfl))) (
      AS.nil)))))))))))))) ?_
  refine jn_keep [4] [] (.cons rfl .nil) .nil ?_
  refine jn_seq (j_ret ?_)
  exact jr_fin1 Tryz.results19 (res_tmp rfl) rfl (rb (by first | rfl | (unfold valid9; rfl) | (simp [valid9]; done)))


def limF (en : List TEnum) : Bool := decide (en.length ≤ 8) && en.all (fun q => decide (q.2.length ≤ 16))
theorem limF_iff {en : List TEnum} : limF en = true ↔ en.length ≤ 8 ∧ ∀ q ∈ en, q.2.length ≤ 16 := by simp [limF]
theorem limF_f {en : List TEnum} {k : Nat} (hk : k < en.length) (h : ¬ en[k].2.length ≤ 16) : limF en = false := by
  rw [Bool.eq_false_iff]; intro q; exact h ((limF_iff.1 q).2 _ (List.getElem_mem hk))
theorem allm_succ {α : Type} {P : α → Prop} {xs : List α} {k : Nat} (h : k < xs.length) (h1 : ∀ x ∈ xs.take k, P x) (h2 : P xs[k]) : ∀ x ∈ xs.take (k + 1), P x := by
  intro x hx; rw [List.take_succ_eq_append_getElem h, List.mem_append, List.mem_singleton] at hx
  rcases hx with hx | rfl
  · exact h1 x hx
  · exact h2

theorem limited_ok (en : List TEnum) : Ct Tryz.prog 5 [.tv (rSlice rEnum) en] (.raw (.bool (limF en))) := by
  refine ct_intro Tryz.func5 rfl rfl Tryz.ntmps5 rfl rfl ?_
  intro w0 ok0
  refine j_seq ?_
  refine j_region ?_
  refine jg_adr _ rfl _ rfl rfl (op_assign (.base rfl)) ?_
  refine jg_nil ?_
  refine jn_keep [0] [] (.cons rfl .nil) .nil ?_
  refine jn_seq (j_seq (j_seq ?_))
  refine j_region ?_
  refine jg_adr _ rfl _ rfl rfl (op_move (.base rfl)) ?_
  refine jg_adr _ rfl _ rfl rfl (op_len Tryz.underlying23 (.base rfl)) ?_
  refine jg_adr _ rfl _ rfl rfl (op_gtr (.base rfl) (.base rfl)) ?_
  refine jg_nil ?_
  refine jn_keep [0, 6] [] (.cons rfl (.cons rfl .nil)) .nil ?_
  refine jn_seq ?_
  refine j_cond rfl (fun h1 => ?_) (fun h1 => ?_)
  · have h1 : ¬ en.length ≤ 8 := by simp at h1; omega
    refine j_seq ?_
    refine j_region ?_
    refine jg_adr _ rfl _ rfl rfl (op_assign (.base rfl)) ?_
    refine jg_nil ?_
    refine jn_keep [2] [] (.cons rfl .nil) .nil ?_
    refine jn_seq (j_ret (jr_seq ?_))
    exact jr_fin1 Tryz.results5 (res_tmp rfl) rfl (rb (by rw [eq_comm, Bool.eq_false_iff]; intro q; exact h1 (limF_iff.1 q).1))
  · have h1 : en.length ≤ 8 := by simp at h1; omega
    refine j_skip (jn_seq (j_seq (j_seq ?_)))
    refine j_region ?_
    refine jg_adr _ rfl _ rfl rfl (op_assign (.base rfl)) ?_
    refine jg_nil ?_
    refine jn_keep [0, 3] [] (.cons rfl (.cons rfl .nil)) .nil ?_
    refine jn_seq (j_block ?_)
    refine j_loopp (ι := Nat) (fun k => ⟨[(0, .tv (rSlice rEnum) en), (3, .raw (.int .i64 ((k : Nat))))], []⟩) (fun k => k ≤ en.length ∧ ∀ q ∈ en.take k, q.2.length ≤ 16) (fun k => en.length - k) 0 (⟨Nat.zero_le _, by simp⟩) (fun a w hi => (Sub.inv ⟨(by repeat (first | exact SubS_nil | refine SubS_cons rfl (by first | rfl | (simp; done) | assumption) ?_)), (by repeat (first | exact SubH_nil | refine SubH_cons rfl (by first | rfl | (simp; done) | assumption) ?_))⟩ hi)) ?_
    rintro k ⟨hk, hp⟩
    refine j_seq (j_seq ?_)
    refine j_region ?_
    refine jg_adr _ rfl _ rfl rfl (op_move (.base rfl)) ?_
    refine jg_adr _ rfl _ rfl rfl (op_move (.base rfl)) ?_
    refine jg_adr _ rfl _ rfl rfl (op_len Tryz.underlying23 (.base rfl)) ?_
    refine jg_adr _ rfl _ rfl rfl (op_lss (.base rfl) (.base rfl)) ?_
    refine jg_nil ?_
    refine jn_keep [0, 3, 10] [] (.cons rfl (.cons rfl (.cons rfl .nil))) .nil ?_
    refine jn_seq ?_
    refine j_cond rfl (fun h4 => ?_) (fun h4 => ?_)
    · simp at h4
      refine j_skip (jn_seq (j_seq (j_block (j_seq ?_))))
      refine j_region ?_
      refine jg_adr _ rfl _ rfl rfl (op_move (.base rfl)) ?_
      refine jg_adr _ rfl _ rfl rfl (op_move (.base rfl)) ?_
      refine jg_adr _ rfl _ rfl rfl (op_index Tryz.underlying23 ty52 (.base rfl) (.base rfl) rfl (List.getElem?_eq_getElem (by first | omega | (simp; done) | (simp; omega) | (simp at hg; omega)))) ?_
      refine jg_adr _ rfl _ rfl rfl (op_field fld52_1 ln52_1 (.base rfl)) ?_
      refine jg_adr _ rfl _ rfl rfl (op_load ty50 (.base rfl)) ?_
      refine jg_adr _ rfl _ rfl rfl (op_len Tryz.underlying50 (.base rfl)) ?_
      refine jg_adr _ rfl _ rfl rfl (op_gtr (.base rfl) (.base rfl)) ?_
      refine jg_nil ?_
      refine jn_keep [0, 3, 19] [] (.cons rfl (.cons rfl (.cons rfl .nil))) .nil ?_
      refine jn_seq ?_
      refine j_cond rfl (fun h6 => ?_) (fun h6 => ?_)
      · have h6 : ¬ en[k].2.length ≤ 16 := by simp [List.getElem?_eq_getElem h4] at h6; omega
        refine j_seq ?_
        refine j_region ?_
        refine jg_adr _ rfl _ rfl rfl (op_assign (.base rfl)) ?_
        refine jg_nil ?_
        refine jn_keep [2] [] (.cons rfl .nil) .nil ?_
        refine jn_seq (j_ret (jr_blk (jr_seq (jr_loop (jr_blk (jr_seq ?_))))))
        exact jr_fin1 Tryz.results5 (res_tmp rfl) rfl (rb (limF_f h4 h6).symm)
      · have h6 : en[k].2.length ≤ 16 := by simp [List.getElem?_eq_getElem h4] at h6; omega
        refine j_skip (jn_blk (jn_seq ?_))
        refine j_region ?_
        refine jg_adr _ rfl _ rfl rfl (op_move (.base rfl)) ?_
        refine jg_adr _ rfl _ rfl rfl (op_add (.base rfl) (.base rfl) (w64 (by omega))) ?_
        refine jg_adr _ rfl _ rfl rfl (op_assign (.base rfl)) ?_
        refine jg_nil ?_
        refine jn_keep [0, 3] [] (.cons rfl (.cons rfl .nil)) .nil ?_
        exact jn_loop (fun a w hi => ⟨k + 1, (by first | omega | (simp; omega)), (⟨by omega, allm_succ h4 hp h6⟩), (Sub.inv ⟨(by repeat (first | exact SubS_nil | refine SubS_cons rfl (by first | rfl | (simp; done) | assumption) ?_)), (by repeat (first | exact SubH_nil | refine SubH_cons rfl (by first | rfl | (simp; done) | assumption) ?_))⟩ hi)⟩)
    · simp at h4
      refine j_exit (je_seq (je_loop (je_blk (jn_seq (j_seq ?_)))))
      refine j_region ?_
      refine jg_adr _ rfl _ rfl rfl (op_assign (.base rfl)) ?_
      refine jg_nil ?_
      refine jn_keep [2] [] (.cons rfl .nil) .nil ?_
      refine jn_seq (j_ret ?_)
      exact jr_fin1 Tryz.results5 (res_tmp rfl) rfl (rb (by rw [eq_comm, limF_iff]; rw [List.take_of_length_le (by omega)] at hp; exact ⟨h1, hp⟩))


def vAt (s : TSignature) (l : List Int) (i : Nat) : TValue := ((s.2.2.1.getD i (0, 0)).1, (s.2.2.1.getD i (0, 0)).2, l.getD i 0)
def valsK (s : TSignature) (l : List Int) (k : Nat) : List TValue := (List.range k).map (vAt s l)
theorem valsK_succ (s : TSignature) (l : List Int) (k : Nat) : valsK s l (k + 1) = valsK s l k ++ [vAt s l k] := by unfold valsK; rw [List.range_succ, List.map_append]; rfl
theorem valsK_len (s : TSignature) (l : List Int) (k : Nat) : (valsK s l k).length = k := by simp [valsK]
theorem vAt_get {s : TSignature} {l : List Int} {i : Nat} (h1 : i < s.2.2.1.length) (h2 : i < l.length) : vAt s l i = ((s.2.2.1[i]).1, (s.2.2.1[i]).2, l[i]) := by unfold vAt; simp [h1, h2]
noncomputable def valsF (s : TSignature) (l : List Int) : List TValue × Bool :=
  if ∀ i, i < min s.2.2.1.length l.length → valid9 (vAt s l i) s.1 = true then (valsK s l (min s.2.2.1.length l.length), decide (min s.2.2.1.length l.length = s.2.2.1.length)) else ([], false)
def svLB (p : List TValue × Bool) : SV := .tup2 (.tv (rSlice rValue) p.1) (.raw (.bool p.2))
theorem svLB_eq {p : List TValue × Bool} {a : List TValue} {b : Bool} (h : (a, b) = p) : SV.tup2 (.tv (rSlice rValue) a) (.raw (.bool b)) = svLB p := by subst h; rfl
theorem valsF_t {s : TSignature} {l : List Int} (h : ∀ i, i < min s.2.2.1.length l.length → valid9 (vAt s l i) s.1 = true) : valsF s l = (valsK s l (min s.2.2.1.length l.length), decide (min s.2.2.1.length l.length = s.2.2.1.length)) := if_pos h
theorem valsF_f {s : TSignature} {l : List Int} {k : Nat} (h1 : k < min s.2.2.1.length l.length) (h2 : valid9 (vAt s l k) s.1 = false) : valsF s l = ([], false) := if_neg (fun h => by rw [h k h1] at h2; cases h2)

theorem values_ok (s : TSignature) (l : List Int) (hs : s.2.2.1.length ≤ 1000) : Ct Tryz.prog 8 [.tv rSignature s, .tv (rSlice (rInt .i64)) l] (svLB (valsF s l)) := by
  refine ct_intro Tryz.func8 rfl rfl Tryz.ntmps8 rfl rfl ?_
  intro w0 ok0
  refine j_len 1 rfl (fun hl1 => ?_)
  refine j_seq ?_
  refine j_region ?_
  refine jg_os _ rfl (op_box (.tv (.base rfl)) rfl rfl rfl) ?_
  refine jg_adr _ rfl _ rfl rfl (op_assign (.base rfl)) ?_
  refine jg_adr _ rfl _ rfl rfl (op_assign (.base rfl)) ?_
  refine jg_nil ?_
  refine jn_keep [1, 2] [2] (.cons rfl (.cons rfl .nil)) (.cons rfl .nil) ?_
  refine jn_seq (j_seq ?_)
  refine j_region ?_
  refine jg_adr _ rfl _ rfl rfl (op_assign (.base rfl)) ?_
  refine jg_nil ?_
  refine jn_keep [1, 2, 6] [2] (.cons rfl (.cons rfl (.cons rfl .nil))) (.cons rfl .nil) ?_
  refine jn_seq (j_seq (j_seq ?_))
  refine j_region ?_
  refine jg_adr _ rfl _ rfl rfl (op_assign (.base rfl)) ?_
  refine jg_nil ?_
  refine jn_keep [1, 2, 6, 7] [2] (.cons rfl (.cons rfl (.cons rfl (.cons rfl .nil)))) (.cons rfl .nil) ?_
  refine jn_seq (j_block ?_)
  refine j_vac 70 6 rValue rfl rfl rfl ?_
  refine j_loopp (ι := Nat) (fun k => ⟨[(1, .tv (rSlice (rInt .i64)) l), (2, .optr 2 rSignature.n 0 0), (6, .own 70 rValue.n 0 (valsK s l k).length), (7, .raw (.int .i64 ((k : Nat))))], [(2, ⟨rSignature, [s]⟩), (70, ⟨rValue, valsK s l k⟩)]⟩) (fun k => k ≤ min s.2.2.1.length l.length ∧ ∀ i, i < k → valid9 (vAt s l i) s.1 = true) (fun k => min s.2.2.1.length l.length - k) 0 (⟨Nat.zero_le _, fun i hi => absurd hi (by omega)⟩) (fun a w hi => (Sub.inv ⟨(by repeat (first | exact SubS_nil | refine SubS_cons rfl (by first | rfl | (simp; done) | assumption) ?_)), (by repeat (first | exact SubH_nil | refine SubH_cons rfl (by first | rfl | (simp; done) | assumption) ?_))⟩ hi)) ?_
  rintro k ⟨hk, hp⟩
  have hvl := valsK_len s l k
  refine j_seq (j_seq ?_)
  refine j_region ?_
  refine jg_adr _ rfl _ rfl rfl (op_move (.base rfl)) ?_
  refine jg_adr _ rfl _ rfl rfl (op_ofield fld27_2 (.base rfl)) ?_
  refine jg_adr _ rfl _ rfl rfl (op_oload ty25 (.base rfl) rfl rfl ln27_2) ?_
  refine jg_adr _ rfl _ rfl rfl (op_len Tryz.underlying25 (.base rfl)) ?_
  refine jg_adr _ rfl _ rfl rfl (op_lss (.base rfl) (.base rfl)) ?_
  refine jg_adr _ rfl _ rfl rfl (op_move (.base rfl)) ?_
  refine jg_gd _ _ _ _ _ _ rfl rfl rfl rfl rfl (fun hg => op_move (.base rfl)) ?_
  refine jg_gd _ _ _ _ _ _ rfl rfl rfl rfl rfl (fun hg => op_move (.base rfl)) ?_
  refine jg_gd _ _ _ _ _ _ rfl rfl rfl rfl rfl (fun hg => op_len Tryz.underlying28 (.gd rfl hg)) ?_
  refine jg_gd _ _ _ _ _ _ rfl rfl rfl rfl rfl (fun hg => op_lss (.gd rfl hg) (.gd rfl hg)) ?_
  refine jg_adr _ rfl _ rfl rfl (op_pick_and (.base rfl) (.base rfl) rfl (by intro h; first | (rw [h]; rfl) | (rw [hg, h]; rfl) | (rw [h, hg]; rfl) | simp_all)) ?_
  refine jg_nil ?_
  refine jn_keep [1, 2, 6, 7, 19] [2, 70] (.cons rfl (.cons rfl (.cons rfl (.cons rfl (.cons rfl .nil))))) (.cons rfl (.cons rfl .nil)) ?_
  refine jn_seq ?_
  refine j_cond rfl (fun h3 => ?_) (fun h3 => ?_)
  · have h3 : k < s.2.2.1.length ∧ k < l.length := by simp at h3; omega
    have hvt := vAt_get h3.1 h3.2
    refine j_skip (jn_seq (j_seq (j_block (j_seq ?_))))
    refine j_drawE mo (by kernel_rfl) (
      AE.cons _ _ _ rfl (gh_ga [2] (ga_adr rfl rfl rfl (op_ofield fld27_2 (.base rfl))) (by kernel_rfl)) (
      AE.cons _ _ _ rfl (gh_ga [2] (ga_adr rfl rfl rfl (op_oload ty25 (.base rfl) rfl rfl ln27_2)) (by kernel_rfl)) (
      AE.cons _ _ _ rfl (gh_ga [] (ga_adr rfl rfl rfl (op_move (.base rfl))) (by kernel_rfl)) (
      AE.cons _ _ _ rfl (gh_ga [] (ga_adr rfl rfl rfl (op_index Tryz.underlying25 ty37 (.base rfl) (.base rfl) rfl (List.getElem?_eq_getElem (by first | omega | (simp; done) | (simp; omega) | (simp at hg; omega))))) (by kernel_rfl)) (
      AE.cons _ _ _ rfl (gh_ga [] (ga_adr rfl rfl rfl (op_field fld37_0 ln37_0 (.base rfl))) (by kernel_rfl)) (
      AE.cons _ _ _ rfl (gh_ga [] (ga_adr rfl rfl rfl (op_load ty3 (.base rfl))) (by kernel_rfl)) (
      AE.cons _ _ _ rfl (gh_ga [2] (ga_adr rfl rfl rfl (op_ofield fld27_2 (.base rfl))) (by kernel_rfl)) (
      AE.cons _ _ _ rfl (gh_ga [2] (ga_adr rfl rfl rfl (op_oload ty25 (.base rfl) rfl rfl ln27_2)) (by kernel_rfl)) (
      AE.cons _ _ _ rfl (gh_ga [] (ga_adr rfl rfl rfl (op_move (.base rfl))) (by kernel_rfl)) (
      AE.cons _ _ _ rfl (gh_ga [] (ga_adr rfl rfl rfl (op_index Tryz.underlying25 ty37 (.base rfl) (.base rfl) rfl (List.getElem?_eq_getElem (by first | omega | (simp; done) | (simp; omega) | (simp at hg; omega))))) (by kernel_rfl)) (
      AE.cons _ _ _ rfl (gh_ga [] (ga_adr rfl rfl rfl (op_field fld37_1 ln37_1 (.base rfl))) (by kernel_rfl)) (
      AE.cons _ _ _ rfl (gh_ga [] (ga_adr rfl rfl rfl (op_load ty3 (.base rfl))) (by kernel_rfl)) (
      AE.cons _ _ _ rfl (gh_ga [] (ga_adr rfl rfl rfl (op_move (.base rfl))) (by kernel_rfl)) (
      AE.cons _ _ _ rfl (gh_ga [] (ga_adr rfl rfl rfl (op_move (.base rfl))) (by kernel_rfl)) (
      AE.cons _ _ _ rfl (gh_ga [] (ga_adr rfl rfl rfl (op_index Tryz.underlying28 ty3 (.base rfl) (.base rfl) rfl (List.getElem?_eq_getElem (by first | omega | (simp; done) | (simp; omega) | (simp at hg; omega))))) (by kernel_rfl)) (
      AE.cons _ _ _ rfl (gh_ga [] (ga_adr rfl rfl rfl (op_load ty3 (.base rfl))) (by kernel_rfl)) (
      AE.cons _ _ _ rfl (gh_ga [] (ga_adr rfl rfl rfl (op_build z42 rfl pl42 (.cons (rt' := (rInt .i64)) rfl ln42_0 (.raw (.base rfl) rfl) (.cons (rt' := (rInt .i64)) rfl ln42_1 (.raw (.base rfl) rfl) (.cons (rt' := (rInt .i64)) rfl ln42_2 (.raw (.base rfl) rfl) .nil))))) (by kernel_rfl)) (
      AE.cons _ _ _ rfl (gh_alloc _ z42 rfl) (
      AE.cons _ _ _ rfl (gh_store ty42 (.base rfl) rfl rfl (Lens.id _) (.tv (.base rfl))) (
      AE.nil)))))))))))))))))))) (by kernel_rfl) ?_
    refine jn_keep [1, 2, 6, 7, 8] [2, 8, 70] (.cons rfl (.cons rfl (.cons rfl (.cons rfl (.cons rfl .nil))))) (.cons rfl (.cons rfl (.cons rfl .nil))) ?_
    refine jn_seq (j_seq (j_seq ?_))
    refine j_region ?_
    refine jg_adr _ rfl _ rfl rfl (op_oload ty42 (.base rfl) rfl rfl (Lens.id _)) ?_
    refine jg_adr _ rfl _ rfl rfl (op_ofield fld27_0 (.base rfl)) ?_
    refine jg_adr _ rfl _ rfl rfl (op_oload ty23 (.base rfl) rfl rfl ln27_0) ?_
    refine jg_adr _ rfl _ rfl rfl (op_call (rvalid9_ok _ _) (.cons (.base rfl) (.cons (.base rfl) .nil)) rfl rfl) ?_
    refine jg_adr _ rfl _ rfl rfl (op_not (.base rfl)) ?_
    refine jg_nil ?_
    refine jn_keep [1, 2, 6, 7, 8, 43] [2, 8, 70] (.cons rfl (.cons rfl (.cons rfl (.cons rfl (.cons rfl (.cons rfl .nil)))))) (.cons rfl (.cons rfl (.cons rfl .nil))) ?_
    refine jn_seq ?_
    refine j_cond rfl (fun h6 => ?_) (fun h6 => ?_)
    · have h6 := (Bool.not_eq_true' _).mp h6
      refine j_seq ?_
      refine j_region ?_
      refine jg_adr _ rfl _ rfl rfl (op_assign (.base rfl)) ?_
      refine jg_adr _ rfl _ rfl rfl (op_assign (.base rfl)) ?_
      refine jg_nil ?_
      refine jn_keep [4, 5] [] (.cons rfl (.cons rfl .nil)) .nil ?_
      refine jn_seq (j_ret (jr_seq (jr_blk (jr_seq (jr_loop (jr_blk (jr_seq ?_)))))))
      exact jr_fin2 Tryz.results8 (res_nil rfl) (res_tmp rfl) ⟨rfl, rfl⟩ (svLB_eq (by rw [valsF_f (k := k) (by omega) (by rw [hvt]; exact h6)]))
    · have h6 := (Bool.not_eq_false' _).mp h6
      refine j_skip (jn_seq ?_)
      refine j_region ?_
      refine jg_adr _ rfl _ rfl rfl (op_move (.base rfl)) ?_
      refine jg_adr _ rfl _ rfl rfl (op_oload ty42 (.base rfl) rfl rfl (Lens.id _)) ?_
      refine jg_adr _ rfl _ rfl rfl (op_bslice (rt := rValue) Tryz.underlying32 ty42 z42 rfl (.cons (.tv (.base rfl)) .nil) rfl rfl) ?_
      refine jg_os _ rfl (op_append [1, 2, 7] Tryz.underlying32 ty42 z42 rfl by42 (.base rfl) rfl (by (try simp); try omega) (.tv (.base rfl)) (by unfold maxLen; (try simp); try omega) (by (try simp); try omega) rfl (.cons rfl (.cons rfl (.cons rfl .nil))) rfl) ?_
      refine jg_adr _ rfl _ rfl rfl (op_assign (.base rfl)) ?_
      refine jg_nil ?_
      refine jn_keep [1, 2, 6, 7] [2, 70] (.cons rfl (.cons rfl (.cons rfl (.cons rfl .nil)))) (.cons rfl (.cons rfl .nil)) ?_
      refine jn_blk (jn_seq ?_)
      refine j_region ?_
      refine jg_adr _ rfl _ rfl rfl (op_move (.base rfl)) ?_
      refine jg_adr _ rfl _ rfl rfl (op_add (.base rfl) (.base rfl) (w64 (by omega))) ?_
      refine jg_adr _ rfl _ rfl rfl (op_assign (.base rfl)) ?_
      refine jg_nil ?_
      refine jn_keep [1, 2, 6, 7] [2, 70] (.cons rfl (.cons rfl (.cons rfl (.cons rfl .nil)))) (.cons rfl (.cons rfl .nil)) ?_
      exact jn_loop (fun a w hi => ⟨k + 1, (by omega), ⟨by omega, fun i hi => (Nat.lt_or_ge i k).elim (fun q => hp i q) (fun q => (by have e : i = k := (by omega); rw [e, hvt]; exact h6))⟩, Sub.inv ⟨(by repeat (first | exact SubS_nil | refine SubS_cons rfl (by first | rfl | (refine congrArg (SV.own 70 rValue.n 0) ?_; rw [valsK_len, valsK_len]; first | rfl | (simp; done))) ?_)), (by repeat (first | exact SubH_nil | refine SubH_cons rfl (by first | rfl | (refine congrArg (HB.mk rValue) ?_; rw [valsK_succ, hvt]; try (simp only [List.drop_zero, List.take_length]); first | done | rfl)) ?_))⟩ hi⟩)
  · have h3 : ¬ (k < s.2.2.1.length ∧ k < l.length) := by simp at h3; omega
    refine j_exit (je_seq (je_loop (je_blk (jn_seq (j_seq ?_)))))
    obtain rfl : k = min s.2.2.1.length l.length := by omega
    refine j_draw mo (by kernel_rfl) (
      AS.cons _ _ rfl (ga_adr rfl rfl rfl (op_move (.base rfl))) (
        AS.cons _ _ rfl (ga_adr rfl rfl rfl (op_move (.base rfl))) (
        AS.cons _ _ rfl (ga_adr rfl rfl rfl (op_len_own Tryz.underlying32 (.base rfl))) (
        AS.cons _ _ rfl (ga_adr rfl rfl rfl (op_ofield fld27_2 (.base rfl))) (
        AS.cons _ _ rfl (ga_adr rfl rfl rfl (op_oload ty25 (.base rfl) rfl rfl ln27_2)) (
        AS.cons _ _ rfl (ga_adr rfl rfl rfl (op_len Tryz.underlying25 (.base rfl))) (
        AS.cons _ _ rfl (ga_adr rfl rfl rfl (op_eql (.base rfl) (.base rfl))) (
        AS.cons _ _ rfl (ga_adr rfl rfl rfl (op_assign (.base rfl))) (
        AS.cons _ _ rfl (ga_adr rfl rfl rfl (op_assign (.base rfl))) (
        AS.nil)))))))))) ?_
    refine jn_keep [4, 5] [70] (.cons rfl (.cons rfl .nil)) (.cons rfl .nil) ?_
    refine jn_seq (j_ret ?_)
    refine jr_seal (rt := rValue) 70 4 (dropH 70 _) rfl rfl (by simp) (dropH_sub 70 _) (dropH_no 70 _) ?_
    exact jr_fin2 Tryz.results8 (res_tmp rfl) (res_tmp rfl) ⟨rfl, rfl⟩ (svLB_eq (by rw [valsF_t hp]; exact Prod.ext (by simp only [List.drop_zero]; rw [List.take_of_length_le (by omega)]) (by simp only [hvl]; rw [Bool.eq_iff_iff]; simp; omega)))

end Go.Proofs.YtgoggdaohdablaaGreat
