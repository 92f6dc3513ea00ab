import Derived.Test.YtgoggdaohdablaaGreatP10g
namespace Go.Proofs.YtgoggdaohdablaaGreat
open Go.Eng
set_option maxRecDepth 100000
set_option maxHeartbeats 4000000
set_option linter.unusedVariables false
set_option linter.unusedSimpArgs false


def nodeType (d : TNode) (l : List TType) (s : TSignature) : TType × Int :=
  if 1 ≤ d.1 ∧ d.1 ≤ 5 then literalType d.2 d.1 s else if d.1 = 6 then enumType d.2 s else if d.1 = 7 then listedType d.2 s.2.2.1 s else if d.1 = 8 then listedType d.2 s.2.2.2.1 s
  else if d.1 = 9 then ((5, 0), 0) else if d.1 = 33 ∨ d.1 = 34 then tableType d (l[0]?.getD (0, 0)) s else if 35 ≤ d.1 ∧ d.1 ≤ 39 then memberType d s
  else if (14 ≤ d.1 ∧ d.1 ≤ 16) ∧ validMode d.2 = false then ((0, 0), 3) else if (resultType d.1 l).2 = false then ((0, 0), 8) else ((resultType d.1 l).1, 0)

theorem nodeType_ok (d : TNode) (l : List TType) (s : TSignature) (hn : d.2 ≤ 9223372036854775807) (hl : (l.length : Int) = arity d.1) : Ct Tryz.prog 30 [.tv rNode d, .tv (rSlice rType) l, .tv rSignature s] (svT (nodeType d l s)) := by
  refine ct_intro Tryz.func30 rfl rfl Tryz.ntmps30 rfl rfl ?_
  intro w0 ok0
  refine j_seq ?_
  refine j_region ?_
  refine jg_os _ rfl (op_box (.tv (.base rfl)) rfl rfl rfl) ?_
  refine jg_os _ rfl (op_box (.tv (.base rfl)) rfl rfl rfl) ?_
  refine jg_os _ rfl (op_alloc _ z37 rfl rfl rfl) ?_
  refine jg_adr _ rfl _ rfl rfl (op_assign (.base rfl)) ?_
  refine jg_nil ?_
  refine jn_keep [1, 3, 5, 6] [3, 5, 6] (.cons rfl (.cons rfl (.cons rfl (.cons rfl .nil)))) (.cons rfl (.cons rfl (.cons rfl .nil))) ?_
  refine jn_seq (j_seq (j_seq ?_))
  refine j_region ?_
  refine jg_adr _ rfl _ rfl rfl (op_ofield fld56_0 (.base rfl)) ?_
  refine jg_adr _ rfl _ rfl rfl (op_oload ty3 (.base rfl) rfl rfl ln56_0) ?_
  refine jg_nil ?_
  refine jn_keep [1, 3, 5, 6, 11] [3, 5, 6] (.cons rfl (.cons rfl (.cons rfl (.cons rfl (.cons rfl .nil))))) (.cons rfl (.cons rfl (.cons rfl .nil))) ?_
  refine jn_seq (j_block (j_seq ?_))
  refine j_region ?_
  refine jg_adr _ rfl _ rfl rfl (op_eql (.base rfl) (.base rfl)) ?_
  refine jg_adr _ rfl _ rfl rfl (op_assign (.base rfl)) ?_
  refine jg_nil ?_
  refine jn_keep [1, 3, 5, 6, 11, 12] [3, 5, 6] (.cons rfl (.cons rfl (.cons rfl (.cons rfl (.cons rfl (.cons rfl .nil)))))) (.cons rfl (.cons rfl (.cons rfl .nil))) ?_
  refine jn_seq ?_
  refine j_cond rfl (fun h2 => ?_) (fun h2 => ?_)
  · try simp at h2
    refine j_seq ?_
    refine j_region ?_
    refine jg_adr _ rfl _ rfl rfl (op_ofield fld56_1 (.base rfl)) ?_
    refine jg_adr _ rfl _ rfl rfl (op_oload ty3 (.base rfl) rfl rfl ln56_1) ?_
    refine jg_adr _ rfl _ rfl rfl (op_oload ty27 (.base rfl) rfl rfl (Lens.id _)) ?_
    refine jg_adr _ rfl _ rfl rfl (op_call (literalType_ok _ _ _) (.cons (.base rfl) (.cons (.base rfl) (.cons (.base rfl) .nil))) rfl rfl) ?_
    refine jg_adr _ rfl _ rfl rfl (op_ext20 (.base rfl)) ?_
    refine jg_adr _ rfl _ rfl rfl (op_ext21 (.base rfl)) ?_
    refine jg_os _ rfl (op_ostore ty37 (.base rfl) rfl rfl (Lens.id _) (.tv (.base rfl))) ?_
    refine jg_adr _ rfl _ rfl rfl (op_assign (.base rfl)) ?_
    refine jg_nil ?_
    refine jn_keep [6, 7] [6] (.cons rfl (.cons rfl .nil)) (.cons rfl .nil) ?_
    refine jn_seq (j_ret (jr_blk (jr_seq ?_)))
    exact jr_fin2 Tryz.results30 (res_cell ty37 rfl rfl rfl (Lens.id rType)) (res_tmp rfl) ⟨rfl, rfl⟩ (svT_eq (by unfold nodeType; first | (simp [*]; done) | ((repeat' split) <;> first | rfl | omega | (simp_all; done) | (simp_all; omega))))
  · try simp at h2
    refine j_seq ?_
    refine j_region ?_
    refine jg_adr _ rfl _ rfl rfl (op_eql (.base rfl) (.base rfl)) ?_
    refine jg_adr _ rfl _ rfl rfl (op_assign (.base rfl)) ?_
    refine jg_nil ?_
    refine jn_keep [1, 3, 5, 6, 11, 20] [3, 5, 6] (.cons rfl (.cons rfl (.cons rfl (.cons rfl (.cons rfl (.cons rfl .nil)))))) (.cons rfl (.cons rfl (.cons rfl .nil))) ?_
    refine jn_seq ?_
    refine j_cond rfl (fun h4 => ?_) (fun h4 => ?_)
    · try simp at h4
      refine j_seq ?_
      refine j_region ?_
      refine jg_adr _ rfl _ rfl rfl (op_ofield fld56_1 (.base rfl)) ?_
      refine jg_adr _ rfl _ rfl rfl (op_oload ty3 (.base rfl) rfl rfl ln56_1) ?_
      refine jg_adr _ rfl _ rfl rfl (op_oload ty27 (.base rfl) rfl rfl (Lens.id _)) ?_
      refine jg_adr _ rfl _ rfl rfl (op_call (literalType_ok _ _ _) (.cons (.base rfl) (.cons (.base rfl) (.cons (.base rfl) .nil))) rfl rfl) ?_
      refine jg_adr _ rfl _ rfl rfl (op_ext20 (.base rfl)) ?_
      refine jg_adr _ rfl _ rfl rfl (op_ext21 (.base rfl)) ?_
      refine jg_os _ rfl (op_ostore ty37 (.base rfl) rfl rfl (Lens.id _) (.tv (.base rfl))) ?_
      refine jg_adr _ rfl _ rfl rfl (op_assign (.base rfl)) ?_
      refine jg_nil ?_
      refine jn_keep [6, 7] [6] (.cons rfl (.cons rfl .nil)) (.cons rfl .nil) ?_
      refine jn_seq (j_ret (jr_blk (jr_seq ?_)))
      exact jr_fin2 Tryz.results30 (res_cell ty37 rfl rfl rfl (Lens.id rType)) (res_tmp rfl) ⟨rfl, rfl⟩ (svT_eq (by unfold nodeType; first | (simp [*]; done) | ((repeat' split) <;> first | rfl | omega | (simp_all; done) | (simp_all; omega))))
    · try simp at h4
      refine j_seq ?_
      refine j_region ?_
      refine jg_adr _ rfl _ rfl rfl (op_eql (.base rfl) (.base rfl)) ?_
      refine jg_adr _ rfl _ rfl rfl (op_assign (.base rfl)) ?_
      refine jg_nil ?_
      refine jn_keep [1, 3, 5, 6, 11, 28] [3, 5, 6] (.cons rfl (.cons rfl (.cons rfl (.cons rfl (.cons rfl (.cons rfl .nil)))))) (.cons rfl (.cons rfl (.cons rfl .nil))) ?_
      refine jn_seq ?_
      refine j_cond rfl (fun h6 => ?_) (fun h6 => ?_)
      · try simp at h6
        refine j_seq ?_
        refine j_region ?_
        refine jg_adr _ rfl _ rfl rfl (op_ofield fld56_1 (.base rfl)) ?_
        refine jg_adr _ rfl _ rfl rfl (op_oload ty3 (.base rfl) rfl rfl ln56_1) ?_
        refine jg_adr _ rfl _ rfl rfl (op_oload ty27 (.base rfl) rfl rfl (Lens.id _)) ?_
        refine jg_adr _ rfl _ rfl rfl (op_call (literalType_ok _ _ _) (.cons (.base rfl) (.cons (.base rfl) (.cons (.base rfl) .nil))) rfl rfl) ?_
        refine jg_adr _ rfl _ rfl rfl (op_ext20 (.base rfl)) ?_
        refine jg_adr _ rfl _ rfl rfl (op_ext21 (.base rfl)) ?_
        refine jg_os _ rfl (op_ostore ty37 (.base rfl) rfl rfl (Lens.id _) (.tv (.base rfl))) ?_
        refine jg_adr _ rfl _ rfl rfl (op_assign (.base rfl)) ?_
        refine jg_nil ?_
        refine jn_keep [6, 7] [6] (.cons rfl (.cons rfl .nil)) (.cons rfl .nil) ?_
        refine jn_seq (j_ret (jr_blk (jr_seq ?_)))
        exact jr_fin2 Tryz.results30 (res_cell ty37 rfl rfl rfl (Lens.id rType)) (res_tmp rfl) ⟨rfl, rfl⟩ (svT_eq (by unfold nodeType; first | (simp [*]; done) | ((repeat' split) <;> first | rfl | omega | (simp_all; done) | (simp_all; omega))))
      · try simp at h6
        refine j_seq ?_
        refine j_region ?_
        refine jg_adr _ rfl _ rfl rfl (op_eql (.base rfl) (.base rfl)) ?_
        refine jg_adr _ rfl _ rfl rfl (op_assign (.base rfl)) ?_
        refine jg_nil ?_
        refine jn_keep [1, 3, 5, 6, 11, 36] [3, 5, 6] (.cons rfl (.cons rfl (.cons rfl (.cons rfl (.cons rfl (.cons rfl .nil)))))) (.cons rfl (.cons rfl (.cons rfl .nil))) ?_
        refine jn_seq ?_
        refine j_cond rfl (fun h8 => ?_) (fun h8 => ?_)
        · try simp at h8
          refine j_seq ?_
          refine j_region ?_
          refine jg_adr _ rfl _ rfl rfl (op_ofield fld56_1 (.base rfl)) ?_
          refine jg_adr _ rfl _ rfl rfl (op_oload ty3 (.base rfl) rfl rfl ln56_1) ?_
          refine jg_adr _ rfl _ rfl rfl (op_oload ty27 (.base rfl) rfl rfl (Lens.id _)) ?_
          refine jg_adr _ rfl _ rfl rfl (op_call (literalType_ok _ _ _) (.cons (.base rfl) (.cons (.base rfl) (.cons (.base rfl) .nil))) rfl rfl) ?_
          refine jg_adr _ rfl _ rfl rfl (op_ext20 (.base rfl)) ?_
          refine jg_adr _ rfl _ rfl rfl (op_ext21 (.base rfl)) ?_
          refine jg_os _ rfl (op_ostore ty37 (.base rfl) rfl rfl (Lens.id _) (.tv (.base rfl))) ?_
          refine jg_adr _ rfl _ rfl rfl (op_assign (.base rfl)) ?_
          refine jg_nil ?_
          refine jn_keep [6, 7] [6] (.cons rfl (.cons rfl .nil)) (.cons rfl .nil) ?_
          refine jn_seq (j_ret (jr_blk (jr_seq ?_)))
          exact jr_fin2 Tryz.results30 (res_cell ty37 rfl rfl rfl (Lens.id rType)) (res_tmp rfl) ⟨rfl, rfl⟩ (svT_eq (by unfold nodeType; first | (simp [*]; done) | ((repeat' split) <;> first | rfl | omega | (simp_all; done) | (simp_all; omega))))
        · try simp at h8
          refine j_seq ?_
          refine j_region ?_
          refine jg_adr _ rfl _ rfl rfl (op_eql (.base rfl) (.base rfl)) ?_
          refine jg_adr _ rfl _ rfl rfl (op_assign (.base rfl)) ?_
          refine jg_nil ?_
          refine jn_keep [1, 3, 5, 6, 11, 44] [3, 5, 6] (.cons rfl (.cons rfl (.cons rfl (.cons rfl (.cons rfl (.cons rfl .nil)))))) (.cons rfl (.cons rfl (.cons rfl .nil))) ?_
          refine jn_seq ?_
          refine j_cond rfl (fun h10 => ?_) (fun h10 => ?_)
          · try simp at h10
            refine j_seq ?_
            refine j_region ?_
            refine jg_adr _ rfl _ rfl rfl (op_ofield fld56_1 (.base rfl)) ?_
            refine jg_adr _ rfl _ rfl rfl (op_oload ty3 (.base rfl) rfl rfl ln56_1) ?_
            refine jg_adr _ rfl _ rfl rfl (op_oload ty27 (.base rfl) rfl rfl (Lens.id _)) ?_
            refine jg_adr _ rfl _ rfl rfl (op_call (literalType_ok _ _ _) (.cons (.base rfl) (.cons (.base rfl) (.cons (.base rfl) .nil))) rfl rfl) ?_
            refine jg_adr _ rfl _ rfl rfl (op_ext20 (.base rfl)) ?_
            refine jg_adr _ rfl _ rfl rfl (op_ext21 (.base rfl)) ?_
            refine jg_os _ rfl (op_ostore ty37 (.base rfl) rfl rfl (Lens.id _) (.tv (.base rfl))) ?_
            refine jg_adr _ rfl _ rfl rfl (op_assign (.base rfl)) ?_
            refine jg_nil ?_
            refine jn_keep [6, 7] [6] (.cons rfl (.cons rfl .nil)) (.cons rfl .nil) ?_
            refine jn_seq (j_ret (jr_blk (jr_seq ?_)))
            exact jr_fin2 Tryz.results30 (res_cell ty37 rfl rfl rfl (Lens.id rType)) (res_tmp rfl) ⟨rfl, rfl⟩ (svT_eq (by unfold nodeType; first | (simp [*]; done) | ((repeat' split) <;> first | rfl | omega | (simp_all; done) | (simp_all; omega))))
          · try simp at h10
            refine j_seq ?_
            refine j_region ?_
            refine jg_adr _ rfl _ rfl rfl (op_eql (.base rfl) (.base rfl)) ?_
            refine jg_adr _ rfl _ rfl rfl (op_assign (.base rfl)) ?_
            refine jg_nil ?_
            refine jn_keep [1, 3, 5, 6, 11, 52] [3, 5, 6] (.cons rfl (.cons rfl (.cons rfl (.cons rfl (.cons rfl (.cons rfl .nil)))))) (.cons rfl (.cons rfl (.cons rfl .nil))) ?_
            refine jn_seq ?_
            refine j_cond rfl (fun h12 => ?_) (fun h12 => ?_)
            · try simp at h12
              refine j_seq ?_
              refine j_region ?_
              refine jg_adr _ rfl _ rfl rfl (op_ofield fld56_1 (.base rfl)) ?_
              refine jg_adr _ rfl _ rfl rfl (op_oload ty3 (.base rfl) rfl rfl ln56_1) ?_
              refine jg_adr _ rfl _ rfl rfl (op_oload ty27 (.base rfl) rfl rfl (Lens.id _)) ?_
              refine jg_adr _ rfl _ rfl rfl (op_call (enumType_ok _ _ hn) (.cons (.base rfl) (.cons (.base rfl) .nil)) rfl rfl) ?_
              refine jg_adr _ rfl _ rfl rfl (op_ext20 (.base rfl)) ?_
              refine jg_adr _ rfl _ rfl rfl (op_ext21 (.base rfl)) ?_
              refine jg_os _ rfl (op_ostore ty37 (.base rfl) rfl rfl (Lens.id _) (.tv (.base rfl))) ?_
              refine jg_adr _ rfl _ rfl rfl (op_assign (.base rfl)) ?_
              refine jg_nil ?_
              refine jn_keep [6, 7] [6] (.cons rfl (.cons rfl .nil)) (.cons rfl .nil) ?_
              refine jn_seq (j_ret (jr_blk (jr_seq ?_)))
              exact jr_fin2 Tryz.results30 (res_cell ty37 rfl rfl rfl (Lens.id rType)) (res_tmp rfl) ⟨rfl, rfl⟩ (svT_eq (by unfold nodeType; first | (simp [*]; done) | ((repeat' split) <;> first | rfl | omega | (simp_all; done) | (simp_all; omega))))
            · try simp at h12
              refine j_seq ?_
              refine j_region ?_
              refine jg_adr _ rfl _ rfl rfl (op_eql (.base rfl) (.base rfl)) ?_
              refine jg_adr _ rfl _ rfl rfl (op_assign (.base rfl)) ?_
              refine jg_nil ?_
              refine jn_keep [1, 3, 5, 6, 11, 60] [3, 5, 6] (.cons rfl (.cons rfl (.cons rfl (.cons rfl (.cons rfl (.cons rfl .nil)))))) (.cons rfl (.cons rfl (.cons rfl .nil))) ?_
              refine jn_seq ?_
              refine j_cond rfl (fun h14 => ?_) (fun h14 => ?_)
              · try simp at h14
                refine j_seq ?_
                refine j_region ?_
                refine jg_adr _ rfl _ rfl rfl (op_ofield fld56_1 (.base rfl)) ?_
                refine jg_adr _ rfl _ rfl rfl (op_oload ty3 (.base rfl) rfl rfl ln56_1) ?_
                refine jg_adr _ rfl _ rfl rfl (op_ofield fld27_2 (.base rfl)) ?_
                refine jg_adr _ rfl _ rfl rfl (op_oload ty25 (.base rfl) rfl rfl ln27_2) ?_
                refine jg_adr _ rfl _ rfl rfl (op_oload ty27 (.base rfl) rfl rfl (Lens.id _)) ?_
                refine jg_adr _ rfl _ rfl rfl (op_call (listedType_ok _ _ _) (.cons (.base rfl) (.cons (.base rfl) (.cons (.base rfl) .nil))) rfl rfl) ?_
                refine jg_adr _ rfl _ rfl rfl (op_ext20 (.base rfl)) ?_
                refine jg_adr _ rfl _ rfl rfl (op_ext21 (.base rfl)) ?_
                refine jg_os _ rfl (op_ostore ty37 (.base rfl) rfl rfl (Lens.id _) (.tv (.base rfl))) ?_
                refine jg_adr _ rfl _ rfl rfl (op_assign (.base rfl)) ?_
                refine jg_nil ?_
                refine jn_keep [6, 7] [6] (.cons rfl (.cons rfl .nil)) (.cons rfl .nil) ?_
                refine jn_seq (j_ret (jr_blk (jr_seq ?_)))
                exact jr_fin2 Tryz.results30 (res_cell ty37 rfl rfl rfl (Lens.id rType)) (res_tmp rfl) ⟨rfl, rfl⟩ (svT_eq (by unfold nodeType; first | (simp [*]; done) | ((repeat' split) <;> first | rfl | omega | (simp_all; done) | (simp_all; omega))))
              · try simp at h14
                refine j_seq ?_
                refine j_region ?_
                refine jg_adr _ rfl _ rfl rfl (op_eql (.base rfl) (.base rfl)) ?_
                refine jg_adr _ rfl _ rfl rfl (op_assign (.base rfl)) ?_
                refine jg_nil ?_
                refine jn_keep [1, 3, 5, 6, 11, 70] [3, 5, 6] (.cons rfl (.cons rfl (.cons rfl (.cons rfl (.cons rfl (.cons rfl .nil)))))) (.cons rfl (.cons rfl (.cons rfl .nil))) ?_
                refine jn_seq ?_
                refine j_cond rfl (fun h16 => ?_) (fun h16 => ?_)
                · try simp at h16
                  refine j_seq ?_
                  refine j_region ?_
                  refine jg_adr _ rfl _ rfl rfl (op_ofield fld56_1 (.base rfl)) ?_
                  refine jg_adr _ rfl _ rfl rfl (op_oload ty3 (.base rfl) rfl rfl ln56_1) ?_
                  refine jg_adr _ rfl _ rfl rfl (op_ofield fld27_3 (.base rfl)) ?_
                  refine jg_adr _ rfl _ rfl rfl (op_oload ty25 (.base rfl) rfl rfl ln27_3) ?_
                  refine jg_adr _ rfl _ rfl rfl (op_oload ty27 (.base rfl) rfl rfl (Lens.id _)) ?_
                  refine jg_adr _ rfl _ rfl rfl (op_call (listedType_ok _ _ _) (.cons (.base rfl) (.cons (.base rfl) (.cons (.base rfl) .nil))) rfl rfl) ?_
                  refine jg_adr _ rfl _ rfl rfl (op_ext20 (.base rfl)) ?_
                  refine jg_adr _ rfl _ rfl rfl (op_ext21 (.base rfl)) ?_
                  refine jg_os _ rfl (op_ostore ty37 (.base rfl) rfl rfl (Lens.id _) (.tv (.base rfl))) ?_
                  refine jg_adr _ rfl _ rfl rfl (op_assign (.base rfl)) ?_
                  refine jg_nil ?_
                  refine jn_keep [6, 7] [6] (.cons rfl (.cons rfl .nil)) (.cons rfl .nil) ?_
                  refine jn_seq (j_ret (jr_blk (jr_seq ?_)))
                  exact jr_fin2 Tryz.results30 (res_cell ty37 rfl rfl rfl (Lens.id rType)) (res_tmp rfl) ⟨rfl, rfl⟩ (svT_eq (by unfold nodeType; first | (simp [*]; done) | ((repeat' split) <;> first | rfl | omega | (simp_all; done) | (simp_all; omega))))
                · try simp at h16
                  refine j_seq ?_
                  refine j_region ?_
                  refine jg_adr _ rfl _ rfl rfl (op_eql (.base rfl) (.base rfl)) ?_
                  refine jg_adr _ rfl _ rfl rfl (op_assign (.base rfl)) ?_
                  refine jg_nil ?_
                  refine jn_keep [1, 3, 5, 6, 11, 80] [3, 5, 6] (.cons rfl (.cons rfl (.cons rfl (.cons rfl (.cons rfl (.cons rfl .nil)))))) (.cons rfl (.cons rfl (.cons rfl .nil))) ?_
                  refine jn_seq ?_
                  refine j_cond rfl (fun h18 => ?_) (fun h18 => ?_)
                  · try simp at h18
                    refine j_seq ?_
                    refine j_region ?_
                    refine jg_adr _ rfl _ rfl rfl (op_build z37 rfl pl37 (.cons (rt' := (rInt .i64)) rfl ln37_0 (.raw (.base rfl) rfl) .nil)) ?_
                    refine jg_os _ rfl (op_ostore ty37 (.base rfl) rfl rfl (Lens.id _) (.tv (.base rfl))) ?_
                    refine jg_adr _ rfl _ rfl rfl (op_assign (.base rfl)) ?_
                    refine jg_nil ?_
                    refine jn_keep [6, 7] [6] (.cons rfl (.cons rfl .nil)) (.cons rfl .nil) ?_
                    refine jn_seq (j_ret (jr_blk (jr_seq ?_)))
                    exact jr_fin2 Tryz.results30 (res_cell ty37 rfl rfl rfl (Lens.id rType)) (res_tmp rfl) ⟨rfl, rfl⟩ (svT_eq (by unfold nodeType; first | (simp [*]; done) | ((repeat' split) <;> first | rfl | omega | (simp_all; done) | (simp_all; omega))))
                  · try simp at h18
                    refine j_seq (j_seq ?_)
                    refine j_region ?_
                    refine jg_adr _ rfl _ rfl rfl (op_eql (.base rfl) (.base rfl)) ?_
                    refine jg_adr _ rfl _ rfl rfl (op_assign (.base rfl)) ?_
                    refine jg_nil ?_
                    refine jn_keep [1, 3, 5, 6, 11, 83] [3, 5, 6] (.cons rfl (.cons rfl (.cons rfl (.cons rfl (.cons rfl (.cons rfl .nil)))))) (.cons rfl (.cons rfl (.cons rfl .nil))) ?_
                    refine jn_seq ?_
                    refine j_cond rfl (fun h20 => ?_) (fun h20 => ?_)
                    · have g20 := h20; try simp at h20
                      refine j_skip (jn_seq ?_)
                      refine j_cond_t rfl g20 (j_seq ?_)
                      obtain ⟨x, rfl⟩ := len1 (l := l) (by have e := hl; unfold arity at e; (repeat' split at e) <;> omega)
                      refine j_drawE mo (by kernel_rfl) (
                        AE.cons _ _ _ rfl (gh_ga [3] (ga_adr rfl rfl rfl (op_oload ty56 (.base rfl) rfl rfl (Lens.id _))) (by kernel_rfl)) (
                        AE.cons _ _ _ rfl (gh_ga [] (ga_adr rfl rfl rfl (op_move (.base rfl))) (by kernel_rfl)) (
                        AE.cons _ _ _ rfl (gh_ga [] (ga_adr rfl rfl rfl (op_index Tryz.underlying25 ty37 (.base rfl) (.base rfl) rfl (List.getElem?_eq_getElem (by first | omega | (simp; done) | (simp; omega) | (simp at hg; omega))))) (by kernel_rfl)) (
                        AE.cons _ _ _ rfl (gh_ga [] (ga_adr rfl rfl rfl (op_load ty37 (.base rfl))) (by kernel_rfl)) (
                        AE.cons _ _ _ rfl (gh_ga [5] (ga_adr rfl rfl rfl (op_oload ty27 (.base rfl) rfl rfl (Lens.id _))) (by kernel_rfl)) (
                        AE.cons _ _ _ rfl (gh_ga [] (ga_adr rfl rfl rfl (op_call (tableType_ok _ _ _ hn) (.cons (.base rfl) (.cons (.base rfl) (.cons (.base rfl) .nil))) rfl rfl)) (by kernel_rfl)) (
                        AE.cons _ _ _ rfl (gh_ga [] (ga_adr rfl rfl rfl (op_ext20 (.base rfl))) (by kernel_rfl)) (
                        AE.cons _ _ _ rfl (gh_ga [] (ga_adr rfl rfl rfl (op_ext21 (.base rfl))) (by kernel_rfl)) (
                        AE.cons _ _ _ rfl (gh_store ty37 (.base rfl) rfl rfl (Lens.id _) (.tv (.base rfl))) (
                        AE.cons _ _ _ rfl (gh_ga [] (ga_adr rfl rfl rfl (op_assign (.base rfl))) (by kernel_rfl)) (
                        AE.nil))))))))))) (by kernel_rfl) ?_
                      refine jn_keep [6, 7] [6] (.cons rfl (.cons rfl .nil)) (.cons rfl .nil) ?_
                      refine jn_seq (j_ret (jr_blk (jr_seq ?_)))
                      exact jr_fin2 Tryz.results30 (res_cell ty37 rfl rfl rfl (Lens.id rType)) (res_tmp rfl) ⟨rfl, rfl⟩ (svT_eq (by unfold nodeType; first | (simp [*]; done) | ((repeat' split) <;> first | rfl | omega | (simp_all; done) | (simp_all; omega))))
                    · have g20 := h20; try simp at h20
                      refine j_region ?_
                      refine jg_adr _ rfl _ rfl rfl (op_eql (.base rfl) (.base rfl)) ?_
                      refine jg_adr _ rfl _ rfl rfl (op_assign (.base rfl)) ?_
                      refine jg_nil ?_
                      refine jn_keep [1, 3, 5, 6, 11, 83] [3, 5, 6] (.cons rfl (.cons rfl (.cons rfl (.cons rfl (.cons rfl (.cons rfl .nil)))))) (.cons rfl (.cons rfl (.cons rfl .nil))) ?_
                      refine jn_seq ?_
                      refine j_cond rfl (fun h21 => ?_) (fun h21 => ?_)
                      · have g21 := h21; try simp at h21
                        refine j_seq ?_
                        obtain ⟨x, rfl⟩ := len1 (l := l) (by have e := hl; unfold arity at e; (repeat' split at e) <;> omega)
                        refine j_drawE mo (by kernel_rfl) (
                          AE.cons _ _ _ rfl (gh_ga [3] (ga_adr rfl rfl rfl (op_oload ty56 (.base rfl) rfl rfl (Lens.id _))) (by kernel_rfl)) (
                          AE.cons _ _ _ rfl (gh_ga [] (ga_adr rfl rfl rfl (op_move (.base rfl))) (by kernel_rfl)) (
                          AE.cons _ _ _ rfl (gh_ga [] (ga_adr rfl rfl rfl (op_index Tryz.underlying25 ty37 (.base rfl) (.base rfl) rfl (List.getElem?_eq_getElem (by first | omega | (simp; done) | (simp; omega) | (simp at hg; omega))))) (by kernel_rfl)) (
                          AE.cons _ _ _ rfl (gh_ga [] (ga_adr rfl rfl rfl (op_load ty37 (.base rfl))) (by kernel_rfl)) (
                          AE.cons _ _ _ rfl (gh_ga [5] (ga_adr rfl rfl rfl (op_oload ty27 (.base rfl) rfl rfl (Lens.id _))) (by kernel_rfl)) (
                          AE.cons _ _ _ rfl (gh_ga [] (ga_adr rfl rfl rfl (op_call (tableType_ok _ _ _ hn) (.cons (.base rfl) (.cons (.base rfl) (.cons (.base rfl) .nil))) rfl rfl)) (by kernel_rfl)) (
                          AE.cons _ _ _ rfl (gh_ga [] (ga_adr rfl rfl rfl (op_ext20 (.base rfl))) (by kernel_rfl)) (
                          AE.cons _ _ _ rfl (gh_ga [] (ga_adr rfl rfl rfl (op_ext21 (.base rfl))) (by kernel_rfl)) (
                          AE.cons _ _ _ rfl (gh_store ty37 (.base rfl) rfl rfl (Lens.id _) (.tv (.base rfl))) (
                          AE.cons _ _ _ rfl (gh_ga [] (ga_adr rfl rfl rfl (op_assign (.base rfl))) (by kernel_rfl)) (
                          AE.nil))))))))))) (by kernel_rfl) ?_
                        refine jn_keep [6, 7] [6] (.cons rfl (.cons rfl .nil)) (.cons rfl .nil) ?_
                        refine jn_seq (j_ret (jr_blk (jr_seq ?_)))
                        exact jr_fin2 Tryz.results30 (res_cell ty37 rfl rfl rfl (Lens.id rType)) (res_tmp rfl) ⟨rfl, rfl⟩ (svT_eq (by unfold nodeType; first | (simp [*]; done) | ((repeat' split) <;> first | rfl | omega | (simp_all; done) | (simp_all; omega))))
                      · have g21 := h21; try simp at h21
                        refine j_seq (j_seq ?_)
                        refine j_region ?_
                        refine jg_adr _ rfl _ rfl rfl (op_eql (.base rfl) (.base rfl)) ?_
                        refine jg_adr _ rfl _ rfl rfl (op_assign (.base rfl)) ?_
                        refine jg_nil ?_
                        refine jn_keep [1, 3, 5, 6, 11, 94] [3, 5, 6] (.cons rfl (.cons rfl (.cons rfl (.cons rfl (.cons rfl (.cons rfl .nil)))))) (.cons rfl (.cons rfl (.cons rfl .nil))) ?_
                        refine jn_seq ?_
                        refine j_cond rfl (fun h23 => ?_) (fun h23 => ?_)
                        · have g23 := h23; try simp at h23
                          refine j_skip (jn_seq ?_)
                          refine j_cond_t rfl g23 (j_seq ?_)
                          refine j_region ?_
                          refine jg_adr _ rfl _ rfl rfl (op_oload ty56 (.base rfl) rfl rfl (Lens.id _)) ?_
                          refine jg_adr _ rfl _ rfl rfl (op_oload ty27 (.base rfl) rfl rfl (Lens.id _)) ?_
                          refine jg_adr _ rfl _ rfl rfl (op_call (memberType_ok _ _) (.cons (.base rfl) (.cons (.base rfl) .nil)) rfl rfl) ?_
                          refine jg_adr _ rfl _ rfl rfl (op_ext20 (.base rfl)) ?_
                          refine jg_adr _ rfl _ rfl rfl (op_ext21 (.base rfl)) ?_
                          refine jg_os _ rfl (op_ostore ty37 (.base rfl) rfl rfl (Lens.id _) (.tv (.base rfl))) ?_
                          refine jg_adr _ rfl _ rfl rfl (op_assign (.base rfl)) ?_
                          refine jg_nil ?_
                          refine jn_keep [6, 7] [6] (.cons rfl (.cons rfl .nil)) (.cons rfl .nil) ?_
                          refine jn_seq (j_ret (jr_blk (jr_seq ?_)))
                          exact jr_fin2 Tryz.results30 (res_cell ty37 rfl rfl rfl (Lens.id rType)) (res_tmp rfl) ⟨rfl, rfl⟩ (svT_eq (by unfold nodeType; first | (simp [*]; done) | ((repeat' split) <;> first | rfl | omega | (simp_all; done) | (simp_all; omega))))
                        · have g23 := h23; try simp at h23
                          refine j_seq ?_
                          refine j_region ?_
                          refine jg_adr _ rfl _ rfl rfl (op_eql (.base rfl) (.base rfl)) ?_
                          refine jg_adr _ rfl _ rfl rfl (op_assign (.base rfl)) ?_
                          refine jg_nil ?_
                          refine jn_keep [1, 3, 5, 6, 11, 94] [3, 5, 6] (.cons rfl (.cons rfl (.cons rfl (.cons rfl (.cons rfl (.cons rfl .nil)))))) (.cons rfl (.cons rfl (.cons rfl .nil))) ?_
                          refine jn_seq ?_
                          refine j_cond rfl (fun h24 => ?_) (fun h24 => ?_)
                          · have g24 := h24; try simp at h24
                            refine j_skip (jn_seq ?_)
                            refine j_cond_t rfl g24 (j_seq ?_)
                            refine j_region ?_
                            refine jg_adr _ rfl _ rfl rfl (op_oload ty56 (.base rfl) rfl rfl (Lens.id _)) ?_
                            refine jg_adr _ rfl _ rfl rfl (op_oload ty27 (.base rfl) rfl rfl (Lens.id _)) ?_
                            refine jg_adr _ rfl _ rfl rfl (op_call (memberType_ok _ _) (.cons (.base rfl) (.cons (.base rfl) .nil)) rfl rfl) ?_
                            refine jg_adr _ rfl _ rfl rfl (op_ext20 (.base rfl)) ?_
                            refine jg_adr _ rfl _ rfl rfl (op_ext21 (.base rfl)) ?_
                            refine jg_os _ rfl (op_ostore ty37 (.base rfl) rfl rfl (Lens.id _) (.tv (.base rfl))) ?_
                            refine jg_adr _ rfl _ rfl rfl (op_assign (.base rfl)) ?_
                            refine jg_nil ?_
                            refine jn_keep [6, 7] [6] (.cons rfl (.cons rfl .nil)) (.cons rfl .nil) ?_
                            refine jn_seq (j_ret (jr_blk (jr_seq ?_)))
                            exact jr_fin2 Tryz.results30 (res_cell ty37 rfl rfl rfl (Lens.id rType)) (res_tmp rfl) ⟨rfl, rfl⟩ (svT_eq (by unfold nodeType; first | (simp [*]; done) | ((repeat' split) <;> first | rfl | omega | (simp_all; done) | (simp_all; omega))))
                          · have g24 := h24; try simp at h24
                            refine j_seq ?_
                            refine j_region ?_
                            refine jg_adr _ rfl _ rfl rfl (op_eql (.base rfl) (.base rfl)) ?_
                            refine jg_adr _ rfl _ rfl rfl (op_assign (.base rfl)) ?_
                            refine jg_nil ?_
                            refine jn_keep [1, 3, 5, 6, 11, 94] [3, 5, 6] (.cons rfl (.cons rfl (.cons rfl (.cons rfl (.cons rfl (.cons rfl .nil)))))) (.cons rfl (.cons rfl (.cons rfl .nil))) ?_
                            refine jn_seq ?_
                            refine j_cond rfl (fun h25 => ?_) (fun h25 => ?_)
                            · have g25 := h25; try simp at h25
                              refine j_skip (jn_seq ?_)
                              refine j_cond_t rfl g25 (j_seq ?_)
                              refine j_region ?_
                              refine jg_adr _ rfl _ rfl rfl (op_oload ty56 (.base rfl) rfl rfl (Lens.id _)) ?_
                              refine jg_adr _ rfl _ rfl rfl (op_oload ty27 (.base rfl) rfl rfl (Lens.id _)) ?_
                              refine jg_adr _ rfl _ rfl rfl (op_call (memberType_ok _ _) (.cons (.base rfl) (.cons (.base rfl) .nil)) rfl rfl) ?_
                              refine jg_adr _ rfl _ rfl rfl (op_ext20 (.base rfl)) ?_
                              refine jg_adr _ rfl _ rfl rfl (op_ext21 (.base rfl)) ?_
                              refine jg_os _ rfl (op_ostore ty37 (.base rfl) rfl rfl (Lens.id _) (.tv (.base rfl))) ?_
                              refine jg_adr _ rfl _ rfl rfl (op_assign (.base rfl)) ?_
                              refine jg_nil ?_
                              refine jn_keep [6, 7] [6] (.cons rfl (.cons rfl .nil)) (.cons rfl .nil) ?_
                              refine jn_seq (j_ret (jr_blk (jr_seq ?_)))
                              exact jr_fin2 Tryz.results30 (res_cell ty37 rfl rfl rfl (Lens.id rType)) (res_tmp rfl) ⟨rfl, rfl⟩ (svT_eq (by unfold nodeType; first | (simp [*]; done) | ((repeat' split) <;> first | rfl | omega | (simp_all; done) | (simp_all; omega))))
                            · have g25 := h25; try simp at h25
                              refine j_seq ?_
                              refine j_region ?_
                              refine jg_adr _ rfl _ rfl rfl (op_eql (.base rfl) (.base rfl)) ?_
                              refine jg_adr _ rfl _ rfl rfl (op_assign (.base rfl)) ?_
                              refine jg_nil ?_
                              refine jn_keep [1, 3, 5, 6, 11, 94] [3, 5, 6] (.cons rfl (.cons rfl (.cons rfl (.cons rfl (.cons rfl (.cons rfl .nil)))))) (.cons rfl (.cons rfl (.cons rfl .nil))) ?_
                              refine jn_seq ?_
                              refine j_cond rfl (fun h26 => ?_) (fun h26 => ?_)
                              · have g26 := h26; try simp at h26
                                refine j_skip (jn_seq ?_)
                                refine j_cond_t rfl g26 (j_seq ?_)
                                refine j_region ?_
                                refine jg_adr _ rfl _ rfl rfl (op_oload ty56 (.base rfl) rfl rfl (Lens.id _)) ?_
                                refine jg_adr _ rfl _ rfl rfl (op_oload ty27 (.base rfl) rfl rfl (Lens.id _)) ?_
                                refine jg_adr _ rfl _ rfl rfl (op_call (memberType_ok _ _) (.cons (.base rfl) (.cons (.base rfl) .nil)) rfl rfl) ?_
                                refine jg_adr _ rfl _ rfl rfl (op_ext20 (.base rfl)) ?_
                                refine jg_adr _ rfl _ rfl rfl (op_ext21 (.base rfl)) ?_
                                refine jg_os _ rfl (op_ostore ty37 (.base rfl) rfl rfl (Lens.id _) (.tv (.base rfl))) ?_
                                refine jg_adr _ rfl _ rfl rfl (op_assign (.base rfl)) ?_
                                refine jg_nil ?_
                                refine jn_keep [6, 7] [6] (.cons rfl (.cons rfl .nil)) (.cons rfl .nil) ?_
                                refine jn_seq (j_ret (jr_blk (jr_seq ?_)))
                                exact jr_fin2 Tryz.results30 (res_cell ty37 rfl rfl rfl (Lens.id rType)) (res_tmp rfl) ⟨rfl, rfl⟩ (svT_eq (by unfold nodeType; first | (simp [*]; done) | ((repeat' split) <;> first | rfl | omega | (simp_all; done) | (simp_all; omega))))
                              · have g26 := h26; try simp at h26
                                refine j_region ?_
                                refine jg_adr _ rfl _ rfl rfl (op_eql (.base rfl) (.base rfl)) ?_
                                refine jg_adr _ rfl _ rfl rfl (op_assign (.base rfl)) ?_
                                refine jg_nil ?_
                                refine jn_keep [1, 3, 5, 6, 11, 94] [3, 5, 6] (.cons rfl (.cons rfl (.cons rfl (.cons rfl (.cons rfl (.cons rfl .nil)))))) (.cons rfl (.cons rfl (.cons rfl .nil))) ?_
                                refine jn_seq ?_
                                refine j_cond rfl (fun h27 => ?_) (fun h27 => ?_)
                                · have g27 := h27; try simp at h27
                                  refine j_seq ?_
                                  refine j_region ?_
                                  refine jg_adr _ rfl _ rfl rfl (op_oload ty56 (.base rfl) rfl rfl (Lens.id _)) ?_
                                  refine jg_adr _ rfl _ rfl rfl (op_oload ty27 (.base rfl) rfl rfl (Lens.id _)) ?_
                                  refine jg_adr _ rfl _ rfl rfl (op_call (memberType_ok _ _) (.cons (.base rfl) (.cons (.base rfl) .nil)) rfl rfl) ?_
                                  refine jg_adr _ rfl _ rfl rfl (op_ext20 (.base rfl)) ?_
                                  refine jg_adr _ rfl _ rfl rfl (op_ext21 (.base rfl)) ?_
                                  refine jg_os _ rfl (op_ostore ty37 (.base rfl) rfl rfl (Lens.id _) (.tv (.base rfl))) ?_
                                  refine jg_adr _ rfl _ rfl rfl (op_assign (.base rfl)) ?_
                                  refine jg_nil ?_
                                  refine jn_keep [6, 7] [6] (.cons rfl (.cons rfl .nil)) (.cons rfl .nil) ?_
                                  refine jn_seq (j_ret (jr_blk (jr_seq ?_)))
                                  exact jr_fin2 Tryz.results30 (res_cell ty37 rfl rfl rfl (Lens.id rType)) (res_tmp rfl) ⟨rfl, rfl⟩ (svT_eq (by unfold nodeType; first | (simp [*]; done) | ((repeat' split) <;> first | rfl | omega | (simp_all; done) | (simp_all; omega))))
                                · have g27 := h27; try simp at h27
                                  refine j_seq (j_seq ?_)
                                  refine j_region ?_
                                  refine jg_adr _ rfl _ rfl rfl (op_eql (.base rfl) (.base rfl)) ?_
                                  refine jg_adr _ rfl _ rfl rfl (op_assign (.base rfl)) ?_
                                  refine jg_nil ?_
                                  refine jn_keep [1, 3, 6, 11, 105] [3, 6] (.cons rfl (.cons rfl (.cons rfl (.cons rfl (.cons rfl .nil))))) (.cons rfl (.cons rfl .nil)) ?_
                                  refine jn_seq ?_
                                  refine j_cond rfl (fun h29 => ?_) (fun h29 => ?_)
                                  · have g29 := h29; try simp at h29
                                    refine j_skip (jn_seq ?_)
                                    refine j_cond_t rfl g29 (j_seq ?_)
                                    refine j_region ?_
                                    refine jg_adr _ rfl _ rfl rfl (op_ofield fld56_1 (.base rfl)) ?_
                                    refine jg_adr _ rfl _ rfl rfl (op_oload ty3 (.base rfl) rfl rfl ln56_1) ?_
                                    refine jg_adr _ rfl _ rfl rfl (op_call (validMode_ok _) (.cons (.base rfl) .nil) rfl rfl) ?_
                                    refine jg_adr _ rfl _ rfl rfl (op_not (.base rfl)) ?_
                                    refine jg_nil ?_
                                    refine jn_keep [1, 3, 6, 112] [3, 6] (.cons rfl (.cons rfl (.cons rfl (.cons rfl .nil)))) (.cons rfl (.cons rfl .nil)) ?_
                                    refine jn_seq ?_
                                    refine j_cond rfl (fun h32 => ?_) (fun h32 => ?_)
                                    · try simp at h32
                                      refine j_seq ?_
                                      refine j_region ?_
                                      refine jg_adr _ rfl _ rfl rfl (op_build z37 rfl pl37 .nil) ?_
                                      refine jg_os _ rfl (op_ostore ty37 (.base rfl) rfl rfl (Lens.id _) (.tv (.base rfl))) ?_
                                      refine jg_adr _ rfl _ rfl rfl (op_assign (.base rfl)) ?_
                                      refine jg_nil ?_
                                      refine jn_keep [6, 7] [6] (.cons rfl (.cons rfl .nil)) (.cons rfl .nil) ?_
                                      refine jn_seq (j_ret (jr_blk (jr_seq ?_)))
                                      exact jr_fin2 Tryz.results30 (res_cell ty37 rfl rfl rfl (Lens.id rType)) (res_tmp rfl) ⟨rfl, rfl⟩ (svT_eq (by unfold nodeType; first | (simp [*]; done) | ((repeat' split) <;> first | rfl | omega | (simp_all; done) | (simp_all; omega))))
                                    · try simp at h32
                                      refine j_skip (jn_blk (jn_seq (j_seq ?_)))
                                      refine j_region ?_
                                      refine jg_adr _ rfl _ rfl rfl (op_ofield fld56_0 (.base rfl)) ?_
                                      refine jg_adr _ rfl _ rfl rfl (op_oload ty3 (.base rfl) rfl rfl ln56_0) ?_
                                      refine jg_adr _ rfl _ rfl rfl (op_move (.base rfl)) ?_
                                      refine jg_adr _ rfl _ rfl rfl (op_call (resultType_ok _ _ hl) (.cons (.base rfl) (.cons (.base rfl) .nil)) rfl rfl) ?_
                                      refine jg_adr _ rfl _ rfl rfl (op_move (.base rfl)) ?_
                                      refine jg_adr _ rfl _ rfl rfl (op_ext20 (.base rfl)) ?_
                                      refine jg_adr _ rfl _ rfl rfl (op_ext21 (.base rfl)) ?_
                                      refine jg_os _ rfl (op_alloc _ z37 rfl rfl rfl) ?_
                                      refine jg_os _ rfl (op_ostore ty37 (.base rfl) rfl rfl (Lens.id _) (.tv (.base rfl))) ?_
                                      refine jg_adr _ rfl _ rfl rfl (op_assign (.base rfl)) ?_
                                      refine jg_nil ?_
                                      refine jn_keep [6, 8, 9] [6, 8] (.cons rfl (.cons rfl (.cons rfl .nil))) (.cons rfl (.cons rfl .nil)) ?_
                                      refine jn_seq (j_seq (j_seq ?_))
                                      refine j_region ?_
                                      refine jg_adr _ rfl _ rfl rfl (op_move (.base rfl)) ?_
                                      refine jg_adr _ rfl _ rfl rfl (op_not (.base rfl)) ?_
                                      refine jg_nil ?_
                                      refine jn_keep [6, 8, 122] [6, 8] (.cons rfl (.cons rfl (.cons rfl .nil))) (.cons rfl (.cons rfl .nil)) ?_
                                      refine jn_seq ?_
                                      refine j_cond rfl (fun h35 => ?_) (fun h35 => ?_)
                                      · try simp at h35
                                        refine j_seq ?_
                                        refine j_region ?_
                                        refine jg_adr _ rfl _ rfl rfl (op_build z37 rfl pl37 .nil) ?_
                                        refine jg_os _ rfl (op_ostore ty37 (.base rfl) rfl rfl (Lens.id _) (.tv (.base rfl))) ?_
                                        refine jg_adr _ rfl _ rfl rfl (op_assign (.base rfl)) ?_
                                        refine jg_nil ?_
                                        refine jn_keep [6, 7] [6] (.cons rfl (.cons rfl .nil)) (.cons rfl .nil) ?_
                                        refine jn_seq (j_ret (jr_seq ?_))
                                        exact jr_fin2 Tryz.results30 (res_cell ty37 rfl rfl rfl (Lens.id rType)) (res_tmp rfl) ⟨rfl, rfl⟩ (svT_eq (by unfold nodeType; first | (simp [*]; done) | ((repeat' split) <;> first | rfl | omega | (simp_all; done) | (simp_all; omega))))
                                      · try simp at h35
                                        refine j_skip (jn_seq (j_seq ?_))
                                        refine j_region ?_
                                        refine jg_adr _ rfl _ rfl rfl (op_oload ty37 (.base rfl) rfl rfl (Lens.id _)) ?_
                                        refine jg_os _ rfl (op_ostore ty37 (.base rfl) rfl rfl (Lens.id _) (.tv (.base rfl))) ?_
                                        refine jg_adr _ rfl _ rfl rfl (op_assign (.base rfl)) ?_
                                        refine jg_nil ?_
                                        refine jn_keep [6, 7] [6] (.cons rfl (.cons rfl .nil)) (.cons rfl .nil) ?_
                                        refine jn_seq (j_ret ?_)
                                        exact jr_fin2 Tryz.results30 (res_cell ty37 rfl rfl rfl (Lens.id rType)) (res_tmp rfl) ⟨rfl, rfl⟩ (svT_eq (by unfold nodeType; first | (simp [*]; done) | ((repeat' split) <;> first | rfl | omega | (simp_all; done) | (simp_all; omega))))
                                  · have g29 := h29; try simp at h29
                                    refine j_seq ?_
                                    refine j_region ?_
                                    refine jg_adr _ rfl _ rfl rfl (op_eql (.base rfl) (.base rfl)) ?_
                                    refine jg_adr _ rfl _ rfl rfl (op_assign (.base rfl)) ?_
                                    refine jg_nil ?_
                                    refine jn_keep [1, 3, 6, 11, 105] [3, 6] (.cons rfl (.cons rfl (.cons rfl (.cons rfl (.cons rfl .nil))))) (.cons rfl (.cons rfl .nil)) ?_
                                    refine jn_seq ?_
                                    refine j_cond rfl (fun h30 => ?_) (fun h30 => ?_)
                                    · have g30 := h30; try simp at h30
                                      refine j_skip (jn_seq ?_)
                                      refine j_cond_t rfl g30 (j_seq ?_)
                                      refine j_region ?_
                                      refine jg_adr _ rfl _ rfl rfl (op_ofield fld56_1 (.base rfl)) ?_
                                      refine jg_adr _ rfl _ rfl rfl (op_oload ty3 (.base rfl) rfl rfl ln56_1) ?_
                                      refine jg_adr _ rfl _ rfl rfl (op_call (validMode_ok _) (.cons (.base rfl) .nil) rfl rfl) ?_
                                      refine jg_adr _ rfl _ rfl rfl (op_not (.base rfl)) ?_
                                      refine jg_nil ?_
                                      refine jn_keep [1, 3, 6, 112] [3, 6] (.cons rfl (.cons rfl (.cons rfl (.cons rfl .nil)))) (.cons rfl (.cons rfl .nil)) ?_
                                      refine jn_seq ?_
                                      refine j_cond rfl (fun h32 => ?_) (fun h32 => ?_)
                                      · try simp at h32
                                        refine j_seq ?_
                                        refine j_region ?_
                                        refine jg_adr _ rfl _ rfl rfl (op_build z37 rfl pl37 .nil) ?_
                                        refine jg_os _ rfl (op_ostore ty37 (.base rfl) rfl rfl (Lens.id _) (.tv (.base rfl))) ?_
                                        refine jg_adr _ rfl _ rfl rfl (op_assign (.base rfl)) ?_
                                        refine jg_nil ?_
                                        refine jn_keep [6, 7] [6] (.cons rfl (.cons rfl .nil)) (.cons rfl .nil) ?_
                                        refine jn_seq (j_ret (jr_blk (jr_seq ?_)))
                                        exact jr_fin2 Tryz.results30 (res_cell ty37 rfl rfl rfl (Lens.id rType)) (res_tmp rfl) ⟨rfl, rfl⟩ (svT_eq (by unfold nodeType; first | (simp [*]; done) | ((repeat' split) <;> first | rfl | omega | (simp_all; done) | (simp_all; omega))))
                                      · try simp at h32
                                        refine j_skip (jn_blk (jn_seq (j_seq ?_)))
                                        refine j_region ?_
                                        refine jg_adr _ rfl _ rfl rfl (op_ofield fld56_0 (.base rfl)) ?_
                                        refine jg_adr _ rfl _ rfl rfl (op_oload ty3 (.base rfl) rfl rfl ln56_0) ?_
                                        refine jg_adr _ rfl _ rfl rfl (op_move (.base rfl)) ?_
                                        refine jg_adr _ rfl _ rfl rfl (op_call (resultType_ok _ _ hl) (.cons (.base rfl) (.cons (.base rfl) .nil)) rfl rfl) ?_
                                        refine jg_adr _ rfl _ rfl rfl (op_move (.base rfl)) ?_
                                        refine jg_adr _ rfl _ rfl rfl (op_ext20 (.base rfl)) ?_
                                        refine jg_adr _ rfl _ rfl rfl (op_ext21 (.base rfl)) ?_
                                        refine jg_os _ rfl (op_alloc _ z37 rfl rfl rfl) ?_
                                        refine jg_os _ rfl (op_ostore ty37 (.base rfl) rfl rfl (Lens.id _) (.tv (.base rfl))) ?_
                                        refine jg_adr _ rfl _ rfl rfl (op_assign (.base rfl)) ?_
                                        refine jg_nil ?_
                                        refine jn_keep [6, 8, 9] [6, 8] (.cons rfl (.cons rfl (.cons rfl .nil))) (.cons rfl (.cons rfl .nil)) ?_
                                        refine jn_seq (j_seq (j_seq ?_))
                                        refine j_region ?_
                                        refine jg_adr _ rfl _ rfl rfl (op_move (.base rfl)) ?_
                                        refine jg_adr _ rfl _ rfl rfl (op_not (.base rfl)) ?_
                                        refine jg_nil ?_
                                        refine jn_keep [6, 8, 122] [6, 8] (.cons rfl (.cons rfl (.cons rfl .nil))) (.cons rfl (.cons rfl .nil)) ?_
                                        refine jn_seq ?_
                                        refine j_cond rfl (fun h35 => ?_) (fun h35 => ?_)
                                        · try simp at h35
                                          refine j_seq ?_
                                          refine j_region ?_
                                          refine jg_adr _ rfl _ rfl rfl (op_build z37 rfl pl37 .nil) ?_
                                          refine jg_os _ rfl (op_ostore ty37 (.base rfl) rfl rfl (Lens.id _) (.tv (.base rfl))) ?_
                                          refine jg_adr _ rfl _ rfl rfl (op_assign (.base rfl)) ?_
                                          refine jg_nil ?_
                                          refine jn_keep [6, 7] [6] (.cons rfl (.cons rfl .nil)) (.cons rfl .nil) ?_
                                          refine jn_seq (j_ret (jr_seq ?_))
                                          exact jr_fin2 Tryz.results30 (res_cell ty37 rfl rfl rfl (Lens.id rType)) (res_tmp rfl) ⟨rfl, rfl⟩ (svT_eq (by unfold nodeType; first | (simp [*]; done) | ((repeat' split) <;> first | rfl | omega | (simp_all; done) | (simp_all; omega))))
                                        · try simp at h35
                                          refine j_skip (jn_seq (j_seq ?_))
                                          refine j_region ?_
                                          refine jg_adr _ rfl _ rfl rfl (op_oload ty37 (.base rfl) rfl rfl (Lens.id _)) ?_
                                          refine jg_os _ rfl (op_ostore ty37 (.base rfl) rfl rfl (Lens.id _) (.tv (.base rfl))) ?_
                                          refine jg_adr _ rfl _ rfl rfl (op_assign (.base rfl)) ?_
                                          refine jg_nil ?_
                                          refine jn_keep [6, 7] [6] (.cons rfl (.cons rfl .nil)) (.cons rfl .nil) ?_
                                          refine jn_seq (j_ret ?_)
                                          exact jr_fin2 Tryz.results30 (res_cell ty37 rfl rfl rfl (Lens.id rType)) (res_tmp rfl) ⟨rfl, rfl⟩ (svT_eq (by unfold nodeType; first | (simp [*]; done) | ((repeat' split) <;> first | rfl | omega | (simp_all; done) | (simp_all; omega))))
                                    · have g30 := h30; try simp at h30
                                      refine j_region ?_
                                      refine jg_adr _ rfl _ rfl rfl (op_eql (.base rfl) (.base rfl)) ?_
                                      refine jg_adr _ rfl _ rfl rfl (op_assign (.base rfl)) ?_
                                      refine jg_nil ?_
                                      refine jn_keep [1, 3, 6, 105] [3, 6] (.cons rfl (.cons rfl (.cons rfl (.cons rfl .nil)))) (.cons rfl (.cons rfl .nil)) ?_
                                      refine jn_seq ?_
                                      refine j_cond rfl (fun h31 => ?_) (fun h31 => ?_)
                                      · have g31 := h31; try simp at h31
                                        refine j_seq ?_
                                        refine j_region ?_
                                        refine jg_adr _ rfl _ rfl rfl (op_ofield fld56_1 (.base rfl)) ?_
                                        refine jg_adr _ rfl _ rfl rfl (op_oload ty3 (.base rfl) rfl rfl ln56_1) ?_
                                        refine jg_adr _ rfl _ rfl rfl (op_call (validMode_ok _) (.cons (.base rfl) .nil) rfl rfl) ?_
                                        refine jg_adr _ rfl _ rfl rfl (op_not (.base rfl)) ?_
                                        refine jg_nil ?_
                                        refine jn_keep [1, 3, 6, 112] [3, 6] (.cons rfl (.cons rfl (.cons rfl (.cons rfl .nil)))) (.cons rfl (.cons rfl .nil)) ?_
                                        refine jn_seq ?_
                                        refine j_cond rfl (fun h32 => ?_) (fun h32 => ?_)
                                        · try simp at h32
                                          refine j_seq ?_
                                          refine j_region ?_
                                          refine jg_adr _ rfl _ rfl rfl (op_build z37 rfl pl37 .nil) ?_
                                          refine jg_os _ rfl (op_ostore ty37 (.base rfl) rfl rfl (Lens.id _) (.tv (.base rfl))) ?_
                                          refine jg_adr _ rfl _ rfl rfl (op_assign (.base rfl)) ?_
                                          refine jg_nil ?_
                                          refine jn_keep [6, 7] [6] (.cons rfl (.cons rfl .nil)) (.cons rfl .nil) ?_
                                          refine jn_seq (j_ret (jr_blk (jr_seq ?_)))
                                          exact jr_fin2 Tryz.results30 (res_cell ty37 rfl rfl rfl (Lens.id rType)) (res_tmp rfl) ⟨rfl, rfl⟩ (svT_eq (by unfold nodeType; first | (simp [*]; done) | ((repeat' split) <;> first | rfl | omega | (simp_all; done) | (simp_all; omega))))
                                        · try simp at h32
                                          refine j_skip (jn_blk (jn_seq (j_seq ?_)))
                                          refine j_region ?_
                                          refine jg_adr _ rfl _ rfl rfl (op_ofield fld56_0 (.base rfl)) ?_
                                          refine jg_adr _ rfl _ rfl rfl (op_oload ty3 (.base rfl) rfl rfl ln56_0) ?_
                                          refine jg_adr _ rfl _ rfl rfl (op_move (.base rfl)) ?_
                                          refine jg_adr _ rfl _ rfl rfl (op_call (resultType_ok _ _ hl) (.cons (.base rfl) (.cons (.base rfl) .nil)) rfl rfl) ?_
                                          refine jg_adr _ rfl _ rfl rfl (op_move (.base rfl)) ?_
                                          refine jg_adr _ rfl _ rfl rfl (op_ext20 (.base rfl)) ?_
                                          refine jg_adr _ rfl _ rfl rfl (op_ext21 (.base rfl)) ?_
                                          refine jg_os _ rfl (op_alloc _ z37 rfl rfl rfl) ?_
                                          refine jg_os _ rfl (op_ostore ty37 (.base rfl) rfl rfl (Lens.id _) (.tv (.base rfl))) ?_
                                          refine jg_adr _ rfl _ rfl rfl (op_assign (.base rfl)) ?_
                                          refine jg_nil ?_
                                          refine jn_keep [6, 8, 9] [6, 8] (.cons rfl (.cons rfl (.cons rfl .nil))) (.cons rfl (.cons rfl .nil)) ?_
                                          refine jn_seq (j_seq (j_seq ?_))
                                          refine j_region ?_
                                          refine jg_adr _ rfl _ rfl rfl (op_move (.base rfl)) ?_
                                          refine jg_adr _ rfl _ rfl rfl (op_not (.base rfl)) ?_
                                          refine jg_nil ?_
                                          refine jn_keep [6, 8, 122] [6, 8] (.cons rfl (.cons rfl (.cons rfl .nil))) (.cons rfl (.cons rfl .nil)) ?_
                                          refine jn_seq ?_
                                          refine j_cond rfl (fun h35 => ?_) (fun h35 => ?_)
                                          · try simp at h35
                                            refine j_seq ?_
                                            refine j_region ?_
                                            refine jg_adr _ rfl _ rfl rfl (op_build z37 rfl pl37 .nil) ?_
                                            refine jg_os _ rfl (op_ostore ty37 (.base rfl) rfl rfl (Lens.id _) (.tv (.base rfl))) ?_
                                            refine jg_adr _ rfl _ rfl rfl (op_assign (.base rfl)) ?_
                                            refine jg_nil ?_
                                            refine jn_keep [6, 7] [6] (.cons rfl (.cons rfl .nil)) (.cons rfl .nil) ?_
                                            refine jn_seq (j_ret (jr_seq ?_))
                                            exact jr_fin2 Tryz.results30 (res_cell ty37 rfl rfl rfl (Lens.id rType)) (res_tmp rfl) ⟨rfl, rfl⟩ (svT_eq (by unfold nodeType; first | (simp [*]; done) | ((repeat' split) <;> first | rfl | omega | (simp_all; done) | (simp_all; omega))))
                                          · try simp at h35
                                            refine j_skip (jn_seq (j_seq ?_))
                                            refine j_region ?_
                                            refine jg_adr _ rfl _ rfl rfl (op_oload ty37 (.base rfl) rfl rfl (Lens.id _)) ?_
                                            refine jg_os _ rfl (op_ostore ty37 (.base rfl) rfl rfl (Lens.id _) (.tv (.base rfl))) ?_
                                            refine jg_adr _ rfl _ rfl rfl (op_assign (.base rfl)) ?_
                                            refine jg_nil ?_
                                            refine jn_keep [6, 7] [6] (.cons rfl (.cons rfl .nil)) (.cons rfl .nil) ?_
                                            refine jn_seq (j_ret ?_)
                                            exact jr_fin2 Tryz.results30 (res_cell ty37 rfl rfl rfl (Lens.id rType)) (res_tmp rfl) ⟨rfl, rfl⟩ (svT_eq (by unfold nodeType; first | (simp [*]; done) | ((repeat' split) <;> first | rfl | omega | (simp_all; done) | (simp_all; omega))))
                                      · have g31 := h31; try simp at h31
                                        refine j_skip (jn_blk (jn_seq (j_seq ?_)))
                                        refine j_region ?_
                                        refine jg_adr _ rfl _ rfl rfl (op_ofield fld56_0 (.base rfl)) ?_
                                        refine jg_adr _ rfl _ rfl rfl (op_oload ty3 (.base rfl) rfl rfl ln56_0) ?_
                                        refine jg_adr _ rfl _ rfl rfl (op_move (.base rfl)) ?_
                                        refine jg_adr _ rfl _ rfl rfl (op_call (resultType_ok _ _ hl) (.cons (.base rfl) (.cons (.base rfl) .nil)) rfl rfl) ?_
                                        refine jg_adr _ rfl _ rfl rfl (op_move (.base rfl)) ?_
                                        refine jg_adr _ rfl _ rfl rfl (op_ext20 (.base rfl)) ?_
                                        refine jg_adr _ rfl _ rfl rfl (op_ext21 (.base rfl)) ?_
                                        refine jg_os _ rfl (op_alloc _ z37 rfl rfl rfl) ?_
                                        refine jg_os _ rfl (op_ostore ty37 (.base rfl) rfl rfl (Lens.id _) (.tv (.base rfl))) ?_
                                        refine jg_adr _ rfl _ rfl rfl (op_assign (.base rfl)) ?_
                                        refine jg_nil ?_
                                        refine jn_keep [6, 8, 9] [6, 8] (.cons rfl (.cons rfl (.cons rfl .nil))) (.cons rfl (.cons rfl .nil)) ?_
                                        refine jn_seq (j_seq (j_seq ?_))
                                        refine j_region ?_
                                        refine jg_adr _ rfl _ rfl rfl (op_move (.base rfl)) ?_
                                        refine jg_adr _ rfl _ rfl rfl (op_not (.base rfl)) ?_
                                        refine jg_nil ?_
                                        refine jn_keep [6, 8, 122] [6, 8] (.cons rfl (.cons rfl (.cons rfl .nil))) (.cons rfl (.cons rfl .nil)) ?_
                                        refine jn_seq ?_
                                        refine j_cond rfl (fun h35 => ?_) (fun h35 => ?_)
                                        · try simp at h35
                                          refine j_seq ?_
                                          refine j_region ?_
                                          refine jg_adr _ rfl _ rfl rfl (op_build z37 rfl pl37 .nil) ?_
                                          refine jg_os _ rfl (op_ostore ty37 (.base rfl) rfl rfl (Lens.id _) (.tv (.base rfl))) ?_
                                          refine jg_adr _ rfl _ rfl rfl (op_assign (.base rfl)) ?_
                                          refine jg_nil ?_
                                          refine jn_keep [6, 7] [6] (.cons rfl (.cons rfl .nil)) (.cons rfl .nil) ?_
                                          refine jn_seq (j_ret (jr_seq ?_))
                                          exact jr_fin2 Tryz.results30 (res_cell ty37 rfl rfl rfl (Lens.id rType)) (res_tmp rfl) ⟨rfl, rfl⟩ (svT_eq (by unfold nodeType; first | (simp [*]; done) | ((repeat' split) <;> first | rfl | omega | (simp_all; done) | (simp_all; omega))))
                                        · try simp at h35
                                          refine j_skip (jn_seq (j_seq ?_))
                                          refine j_region ?_
                                          refine jg_adr _ rfl _ rfl rfl (op_oload ty37 (.base rfl) rfl rfl (Lens.id _)) ?_
                                          refine jg_os _ rfl (op_ostore ty37 (.base rfl) rfl rfl (Lens.id _) (.tv (.base rfl))) ?_
                                          refine jg_adr _ rfl _ rfl rfl (op_assign (.base rfl)) ?_
                                          refine jg_nil ?_
                                          refine jn_keep [6, 7] [6] (.cons rfl (.cons rfl .nil)) (.cons rfl .nil) ?_
                                          refine jn_seq (j_ret ?_)
                                          exact jr_fin2 Tryz.results30 (res_cell ty37 rfl rfl rfl (Lens.id rType)) (res_tmp rfl) ⟨rfl, rfl⟩ (svT_eq (by unfold nodeType; first | (simp [*]; done) | ((repeat' split) <;> first | rfl | omega | (simp_all; done) | (simp_all; omega))))

end Go.Proofs.YtgoggdaohdablaaGreat
