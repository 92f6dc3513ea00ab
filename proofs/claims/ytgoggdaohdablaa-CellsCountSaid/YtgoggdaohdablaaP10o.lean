import Derived.Test.YtgoggdaohdablaaP10n
namespace Go.Proofs.Ytgoggdaohdablaa
open Go.Eng
set_option maxRecDepth 100000
set_option maxHeartbeats 4000000
set_option linter.unusedVariables false
set_option linter.unusedSimpArgs false


theorem rng_pos {d : TNode} {s : TSignature} (h : ranged d s = true) : d.1 = 6 ∨ d.1 = 34 → 0 ≤ d.2 := by
  rintro (e | e) <;> simp [ranged, e] at h <;> omega

theorem rresult_ok (d : TNode) (l : List TType) (s : TSignature) (hn : d.2 ≤ 9223372036854775807) (hl : (l.length : Int) = arity d.1) : Ct Try.prog 44 [.tv rNode d, .tv (rSlice rType) l, .tv rSignature s] (svT (resultR d l s)) := by
  refine ct_intro Try.func44 rfl rfl Try.ntmps44 rfl rfl ?_
  intro w0 ok0
  refine j_seq ?_
  refine j_region ?_
  refine jg_os _ rfl (op_box (.tv (.base rfl)) rfl rfl rfl) ?_
  refine jg_os _ rfl (op_box (.tv (.base rfl)) rfl rfl rfl) ?_
  refine jg_os _ rfl (op_alloc _ z36 rfl rfl rfl) ?_
  refine jg_adr _ rfl _ rfl rfl (op_assign (.base rfl)) ?_
  refine jg_nil ?_
  refine jn_keep [1, 3, 5, 6] [3, 5, 6] (.cons rfl (.cons rfl (.cons rfl (.cons rfl .nil)))) (.cons rfl (.cons rfl (.cons rfl .nil))) ?_
  refine jn_seq (j_seq (j_seq ?_))
  refine j_region ?_
  refine jg_adr _ rfl _ rfl rfl (op_ofield fld50_1 (.base rfl)) ?_
  refine jg_adr _ rfl _ rfl rfl (op_oload ty3 (.base rfl) rfl rfl ln50_1) ?_
  refine jg_adr _ rfl _ rfl rfl (op_neq (.base rfl) (.base rfl)) ?_
  refine jg_adr _ rfl _ rfl rfl (op_move (.base rfl)) ?_
  refine jg_gd _ _ _ _ _ _ rfl rfl rfl rfl rfl (fun hg => op_ofield fld50_0 (.base rfl)) ?_
  refine jg_gd _ _ _ _ _ _ rfl rfl rfl rfl rfl (fun hg => op_oload ty3 (.gd rfl hg) rfl rfl ln50_0) ?_
  refine jg_gd _ _ _ _ _ _ rfl rfl rfl rfl rfl (fun hg => op_call (meaning_ok _) (.cons (.gd rfl hg) .nil) rfl rfl) ?_
  refine jg_gd _ _ _ _ _ _ rfl rfl rfl rfl rfl (fun hg => op_not (.gd rfl hg)) ?_
  refine jg_adr _ rfl _ rfl rfl (op_pick_and (.base rfl) (.base rfl) rfl (by intro h; first | (rw [h]; rfl) | simp_all)) ?_
  refine jg_nil ?_
  refine jn_keep [1, 3, 5, 6, 18] [3, 5, 6] (.cons rfl (.cons rfl (.cons rfl (.cons rfl (.cons rfl .nil))))) (.cons rfl (.cons rfl (.cons rfl .nil))) ?_
  refine jn_seq ?_
  refine j_cond rfl (fun h1 => ?_) (fun h1 => ?_)
  · try simp at h1
    refine j_seq ?_
    refine j_region ?_
    refine jg_adr _ rfl _ rfl rfl (op_build z36 rfl pl36 .nil) ?_
    refine jg_os _ rfl (op_ostore ty36 (.base rfl) rfl rfl (Lens.id _) (.tv (.base rfl))) ?_
    refine jg_adr _ rfl _ rfl rfl (op_assign (.base rfl)) ?_
    refine jg_nil ?_
    refine jn_keep [6, 7] [6] (.cons rfl (.cons rfl .nil)) (.cons rfl .nil) ?_
    refine jn_seq (j_ret (jr_seq ?_))
    exact jr_fin2 Try.results44 (res_cell ty36 rfl rfl rfl (Lens.id rType)) (res_tmp rfl) ⟨rfl, rfl⟩ (svT_eq (by unfold resultR; first | (simp [*]; done) | (simp_all; done)))
  · try simp at h1
    refine j_skip (jn_seq (j_seq (j_seq ?_)))
    refine j_region ?_
    refine jg_adr _ rfl _ rfl rfl (op_oload ty50 (.base rfl) rfl rfl (Lens.id _)) ?_
    refine jg_adr _ rfl _ rfl rfl (op_oload ty27 (.base rfl) rfl rfl (Lens.id _)) ?_
    refine jg_adr _ rfl _ rfl rfl (op_call (ranged_ok _ _) (.cons (.base rfl) (.cons (.base rfl) .nil)) rfl rfl) ?_
    refine jg_adr _ rfl _ rfl rfl (op_not (.base rfl)) ?_
    refine jg_nil ?_
    refine jn_keep [1, 3, 5, 6, 23] [3, 5, 6] (.cons rfl (.cons rfl (.cons rfl (.cons rfl (.cons rfl .nil))))) (.cons rfl (.cons rfl (.cons rfl .nil))) ?_
    refine jn_seq ?_
    refine j_cond rfl (fun h3 => ?_) (fun h3 => ?_)
    · try simp at h3
      refine j_seq ?_
      refine j_region ?_
      refine jg_adr _ rfl _ rfl rfl (op_build z36 rfl pl36 .nil) ?_
      refine jg_os _ rfl (op_ostore ty36 (.base rfl) rfl rfl (Lens.id _) (.tv (.base rfl))) ?_
      refine jg_adr _ rfl _ rfl rfl (op_assign (.base rfl)) ?_
      refine jg_nil ?_
      refine jn_keep [6, 7] [6] (.cons rfl (.cons rfl .nil)) (.cons rfl .nil) ?_
      refine jn_seq (j_ret (jr_seq ?_))
      exact jr_fin2 Try.results44 (res_cell ty36 rfl rfl rfl (Lens.id rType)) (res_tmp rfl) ⟨rfl, rfl⟩ (svT_eq (by unfold resultR; first | (simp [*]; done) | (simp_all; done)))
    · try simp at h3
      refine j_skip (jn_seq (j_seq (j_seq ?_)))
      refine j_region ?_
      refine jg_adr _ rfl _ rfl rfl (op_oload ty50 (.base rfl) rfl rfl (Lens.id _)) ?_
      refine jg_adr _ rfl _ rfl rfl (op_oload ty27 (.base rfl) rfl rfl (Lens.id _)) ?_
      refine jg_adr _ rfl _ rfl rfl (op_call (found_ok _ _ hn (rng_pos (by simpa using h3))) (.cons (.base rfl) (.cons (.base rfl) .nil)) rfl rfl) ?_
      refine jg_adr _ rfl _ rfl rfl (op_not (.base rfl)) ?_
      refine jg_nil ?_
      refine jn_keep [1, 3, 5, 6, 28] [3, 5, 6] (.cons rfl (.cons rfl (.cons rfl (.cons rfl (.cons rfl .nil))))) (.cons rfl (.cons rfl (.cons rfl .nil))) ?_
      refine jn_seq ?_
      refine j_cond rfl (fun h5 => ?_) (fun h5 => ?_)
      · try simp at h5
        refine j_seq ?_
        refine j_region ?_
        refine jg_adr _ rfl _ rfl rfl (op_build z36 rfl pl36 .nil) ?_
        refine jg_os _ rfl (op_ostore ty36 (.base rfl) rfl rfl (Lens.id _) (.tv (.base rfl))) ?_
        refine jg_adr _ rfl _ rfl rfl (op_assign (.base rfl)) ?_
        refine jg_nil ?_
        refine jn_keep [6, 7] [6] (.cons rfl (.cons rfl .nil)) (.cons rfl .nil) ?_
        refine jn_seq (j_ret (jr_seq ?_))
        exact jr_fin2 Try.results44 (res_cell ty36 rfl rfl rfl (Lens.id rType)) (res_tmp rfl) ⟨rfl, rfl⟩ (svT_eq (by unfold resultR; first | (simp [*]; done) | (simp_all; done)))
      · try simp at h5
        refine j_skip (jn_seq (j_seq ?_))
        have hr : ranged d s = true := by simpa using h3
        have hf : found d s = true := by simpa using h5
        refine j_region ?_
        refine jg_adr _ rfl _ rfl rfl (op_build z36 rfl pl36 .nil) ?_
        refine jg_os _ rfl (op_alloc _ z36 rfl rfl rfl) ?_
        refine jg_os _ rfl (op_ostore ty36 (.base rfl) rfl rfl (Lens.id _) (.tv (.base rfl))) ?_
        refine jg_nil ?_
        refine jn_keep [1, 3, 5, 6, 8] [3, 5, 6, 8] (.cons rfl (.cons rfl (.cons rfl (.cons rfl (.cons rfl .nil))))) (.cons rfl (.cons rfl (.cons rfl (.cons rfl .nil)))) ?_
        refine jn_seq (j_seq ?_)
        refine j_region ?_
        refine jg_adr _ rfl _ rfl rfl (op_assign (.base rfl)) ?_
        refine jg_nil ?_
        refine jn_keep [1, 3, 5, 6, 8] [3, 5, 6, 8] (.cons rfl (.cons rfl (.cons rfl (.cons rfl (.cons rfl .nil))))) (.cons rfl (.cons rfl (.cons rfl (.cons rfl .nil)))) ?_
        refine jn_seq (j_seq (j_seq ?_))
        refine j_region ?_
        refine jg_adr _ rfl _ rfl rfl (op_move (.base rfl)) ?_
        refine jg_adr _ rfl _ rfl rfl (op_len Try.underlying25 (.base rfl)) ?_
        refine jg_nil ?_
        refine jn_keep [1, 3, 5, 6, 8, 32] [3, 5, 6, 8] (.cons rfl (.cons rfl (.cons rfl (.cons rfl (.cons rfl (.cons rfl .nil)))))) (.cons rfl (.cons rfl (.cons rfl (.cons rfl .nil)))) ?_
        refine jn_seq ?_
        refine j_cut (ι := Unit) (fun _ => ⟨[(6, .optr 6 rType.n 0 0), (8, .optr 8 rType.n 0 0), (9, .raw (.bool (resultT d l s).2))], [(6, ⟨rType, [(0, 0)]⟩), (8, ⟨rType, [(resultT d l s).1]⟩)]⟩) (fun _ => True) ?_ ?_
        · skip
          refine j_block (j_seq ?_)
          refine j_region ?_
          refine jg_adr _ rfl _ rfl rfl (op_eql (.base rfl) (.base rfl)) ?_
          refine jg_adr _ rfl _ rfl rfl (op_assign (.base rfl)) ?_
          refine jg_nil ?_
          refine jn_keep [1, 3, 5, 6, 8, 32, 50] [3, 5, 6, 8] (.cons rfl (.cons rfl (.cons rfl (.cons rfl (.cons rfl (.cons rfl (.cons rfl .nil))))))) (.cons rfl (.cons rfl (.cons rfl (.cons rfl .nil)))) ?_
          refine jn_seq ?_
          refine j_cond rfl (fun h12 => ?_) (fun h12 => ?_)
          · try simp at h12
            obtain rfl : l = [] := List.length_eq_zero_iff.1 (by simpa using h12)
            refine j_region ?_
            refine jg_adr _ rfl _ rfl rfl (op_oload ty50 (.base rfl) rfl rfl (Lens.id _)) ?_
            refine jg_adr _ rfl _ rfl rfl (op_oload ty27 (.base rfl) rfl rfl (Lens.id _)) ?_
            refine jg_adr _ rfl _ rfl rfl (op_call (leaf_ok _ _ hn hr hf) (.cons (.base rfl) (.cons (.base rfl) .nil)) rfl rfl) ?_
            refine jg_adr _ rfl _ rfl rfl (op_move (.base rfl)) ?_
            refine jg_adr _ rfl _ rfl rfl (op_ext20 (.base rfl)) ?_
            refine jg_adr _ rfl _ rfl rfl (op_ext21 (.base rfl)) ?_
            refine jg_os _ rfl (op_ostore ty36 (.base rfl) rfl rfl (Lens.id _) (.tv (.base rfl))) ?_
            refine jg_adr _ rfl _ rfl rfl (op_assign (.base rfl)) ?_
            refine jg_nil ?_
            refine jn_keep [6, 8, 9] [6, 8] (.cons rfl (.cons rfl (.cons rfl .nil))) (.cons rfl (.cons rfl .nil)) ?_
            refine jn_blk ?_
            exact jn_loop (fun a w hi => ⟨(), trivial, Sub.inv ⟨(by repeat (first | exact SubS_nil | refine SubS_cons rfl (by first | rfl | (refine congrArg (fun b => SV.raw (.bool b)) ?_; simp [resultT])) ?_)), (by repeat (first | exact SubH_nil | refine SubH_cons rfl (by first | rfl | (simp; done) | exact congrArg (HB.mk rType) (by simp [resultT])) ?_))⟩ hi⟩)
          · try simp at h12
            refine j_seq ?_
            refine j_region ?_
            refine jg_adr _ rfl _ rfl rfl (op_eql (.base rfl) (.base rfl)) ?_
            refine jg_adr _ rfl _ rfl rfl (op_assign (.base rfl)) ?_
            refine jg_nil ?_
            refine jn_keep [1, 3, 5, 6, 8, 32, 58] [3, 5, 6, 8] (.cons rfl (.cons rfl (.cons rfl (.cons rfl (.cons rfl (.cons rfl (.cons rfl .nil))))))) (.cons rfl (.cons rfl (.cons rfl (.cons rfl .nil)))) ?_
            refine jn_seq ?_
            refine j_cond rfl (fun h14 => ?_) (fun h14 => ?_)
            · try simp at h14
              obtain ⟨x, rfl⟩ := len1 (l := l) (by omega)
              refine j_drawE mo (by kernel_rfl) (
                AE.cons _ _ _ rfl (gh_ga [3] (ga_adr rfl rfl rfl (op_oload ty50 (.base rfl) rfl rfl (Lens.id _))) (by kernel_rfl)) (
                AE.cons _ _ _ rfl (gh_ga [] (ga_adr rfl rfl rfl (op_move (.base rfl))) (by kernel_rfl)) (
                AE.cons _ _ _ rfl (gh_ga [] (ga_adr rfl rfl rfl (op_index Try.underlying25 ty36 (.base rfl) (.base rfl) rfl (List.getElem?_eq_getElem (by first | omega | (simp; done) | (simp; omega) | (simp at hg; omega))))) (by kernel_rfl)) (
                AE.cons _ _ _ rfl (gh_ga [] (ga_adr rfl rfl rfl (op_load ty36 (.base rfl))) (by kernel_rfl)) (
                AE.cons _ _ _ rfl (gh_ga [5] (ga_adr rfl rfl rfl (op_oload ty27 (.base rfl) rfl rfl (Lens.id _))) (by kernel_rfl)) (
                AE.cons _ _ _ rfl (gh_ga [] (ga_adr rfl rfl rfl (op_call (single_ok _ _ _ hn (by simpa using hl.symm) hr hf) (.cons (.base rfl) (.cons (.base rfl) (.cons (.base rfl) .nil))) rfl rfl)) (by kernel_rfl)) (
                AE.cons _ _ _ rfl (gh_ga [] (ga_adr rfl rfl rfl (op_move (.base rfl))) (by kernel_rfl)) (
                AE.cons _ _ _ rfl (gh_ga [] (ga_adr rfl rfl rfl (op_ext20 (.base rfl))) (by kernel_rfl)) (
                AE.cons _ _ _ rfl (gh_ga [] (ga_adr rfl rfl rfl (op_ext21 (.base rfl))) (by kernel_rfl)) (
                AE.cons _ _ _ rfl (gh_store ty36 (.base rfl) rfl rfl (Lens.id _) (.tv (.base rfl))) (
                AE.cons _ _ _ rfl (gh_ga [] (ga_adr rfl rfl rfl (op_assign (.base rfl))) (by kernel_rfl)) (
                AE.nil)))))))))))) (by kernel_rfl) ?_
              refine jn_keep [6, 8, 9] [6, 8] (.cons rfl (.cons rfl (.cons rfl .nil))) (.cons rfl (.cons rfl .nil)) ?_
              refine jn_blk ?_
              exact jn_loop (fun a w hi => ⟨(), trivial, Sub.inv ⟨(by repeat (first | exact SubS_nil | refine SubS_cons rfl (by first | rfl | (refine congrArg (fun b => SV.raw (.bool b)) ?_; simp [resultT])) ?_)), (by repeat (first | exact SubH_nil | refine SubH_cons rfl (by first | rfl | (simp; done) | exact congrArg (HB.mk rType) (by simp [resultT])) ?_))⟩ hi⟩)
            · try simp at h14
              refine j_seq ?_
              refine j_region ?_
              refine jg_adr _ rfl _ rfl rfl (op_eql (.base rfl) (.base rfl)) ?_
              refine jg_adr _ rfl _ rfl rfl (op_assign (.base rfl)) ?_
              refine jg_nil ?_
              refine jn_keep [1, 3, 6, 8, 69] [3, 6, 8] (.cons rfl (.cons rfl (.cons rfl (.cons rfl (.cons rfl .nil))))) (.cons rfl (.cons rfl (.cons rfl .nil))) ?_
              refine jn_seq ?_
              refine j_cond rfl (fun h16 => ?_) (fun h16 => ?_)
              · try simp at h16
                obtain ⟨x, y, rfl⟩ := len2 (l := l) (by omega)
                refine j_drawE mo (by kernel_rfl) (
                  AE.cons _ _ _ rfl (gh_ga [3] (ga_adr rfl rfl rfl (op_ofield fld50_0 (.base rfl))) (by kernel_rfl)) (
                  AE.cons _ _ _ rfl (gh_ga [3] (ga_adr rfl rfl rfl (op_oload ty3 (.base rfl) rfl rfl ln50_0)) (by kernel_rfl)) (
                  AE.cons _ _ _ rfl (gh_ga [] (ga_adr rfl rfl rfl (op_move (.base rfl))) (by kernel_rfl)) (
                  AE.cons _ _ _ rfl (gh_ga [] (ga_adr rfl rfl rfl (op_index Try.underlying25 ty36 (.base rfl) (.base rfl) rfl (List.getElem?_eq_getElem (by first | omega | (simp; done) | (simp; omega) | (simp at hg; omega))))) (by kernel_rfl)) (
                  AE.cons _ _ _ rfl (gh_ga [] (ga_adr rfl rfl rfl (op_load ty36 (.base rfl))) (by kernel_rfl)) (
                  AE.cons _ _ _ rfl (gh_ga [] (ga_adr rfl rfl rfl (op_move (.base rfl))) (by kernel_rfl)) (
                  AE.cons _ _ _ rfl (gh_ga [] (ga_adr rfl rfl rfl (op_index Try.underlying25 ty36 (.base rfl) (.base rfl) rfl (List.getElem?_eq_getElem (by first | omega | (simp; done) | (simp; omega) | (simp at hg; omega))))) (by kernel_rfl)) (
                  AE.cons _ _ _ rfl (gh_ga [] (ga_adr rfl rfl rfl (op_load ty36 (.base rfl))) (by kernel_rfl)) (
                  AE.cons _ _ _ rfl (gh_ga [] (ga_adr rfl rfl rfl (op_call (double_ok _ _ _) (.cons (.base rfl) (.cons (.base rfl) (.cons (.base rfl) .nil))) rfl rfl)) (by kernel_rfl)) (
                  AE.cons _ _ _ rfl (gh_ga [] (ga_adr rfl rfl rfl (op_move (.base rfl))) (by kernel_rfl)) (
                  AE.cons _ _ _ rfl (gh_ga [] (ga_adr rfl rfl rfl (op_ext20 (.base rfl))) (by kernel_rfl)) (
                  AE.cons _ _ _ rfl (gh_ga [] (ga_adr rfl rfl rfl (op_ext21 (.base rfl))) (by kernel_rfl)) (
                  AE.cons _ _ _ rfl (gh_store ty36 (.base rfl) rfl rfl (Lens.id _) (.tv (.base rfl))) (
                  AE.cons _ _ _ rfl (gh_ga [] (ga_adr rfl rfl rfl (op_assign (.base rfl))) (by kernel_rfl)) (
                  AE.nil))))))))))))))) (by kernel_rfl) ?_
                refine jn_keep [6, 8, 9] [6, 8] (.cons rfl (.cons rfl (.cons rfl .nil))) (.cons rfl (.cons rfl .nil)) ?_
                refine jn_blk ?_
                exact jn_loop (fun a w hi => ⟨(), trivial, Sub.inv ⟨(by repeat (first | exact SubS_nil | refine SubS_cons rfl (by first | rfl | (refine congrArg (fun b => SV.raw (.bool b)) ?_; simp [resultT])) ?_)), (by repeat (first | exact SubH_nil | refine SubH_cons rfl (by first | rfl | (simp; done) | exact congrArg (HB.mk rType) (by simp [resultT])) ?_))⟩ hi⟩)
              · try simp at h16
                refine j_seq ?_
                obtain ⟨x, y, z, rfl⟩ := len3 (l := l) (by have := arity_le d.1; have : l.length ≠ 0 := (by simpa using h12); omega)
                refine j_region ?_
                refine jg_adr _ rfl _ rfl rfl (op_move (.base rfl)) ?_
                refine jg_adr _ rfl _ rfl rfl (op_index Try.underlying25 ty36 (.base rfl) (.base rfl) rfl (List.getElem?_eq_getElem (by first | omega | (simp; done) | (simp; omega) | (simp at hg; omega)))) ?_
                refine jg_adr _ rfl _ rfl rfl (op_load ty36 (.base rfl)) ?_
                refine jg_os _ rfl (op_ostore ty36 (.base rfl) rfl rfl (Lens.id _) (.tv (.base rfl))) ?_
                refine jg_nil ?_
                refine jn_keep [1, 6, 8] [6, 8] (.cons rfl (.cons rfl (.cons rfl .nil))) (.cons rfl (.cons rfl .nil)) ?_
                refine jn_seq ?_
                refine j_draw mo (by kernel_rfl) (
                  AS.cons _ _ rfl (ga_adr rfl rfl rfl (op_move (.base rfl))) (
                    AS.cons _ _ rfl (ga_adr rfl rfl rfl (op_index Try.underlying25 ty36 (.base rfl) (.base rfl) rfl (List.getElem?_eq_getElem (by first | omega | (simp; done) | (simp; omega) | (simp at hg; omega))))) (
                    AS.cons _ _ rfl (ga_adr rfl rfl rfl (op_field fld36_0 ln36_0 (.base rfl))) (
                    AS.cons _ _ rfl (ga_adr rfl rfl rfl (op_load ty3 (.base rfl))) (
                    AS.cons _ _ rfl (ga_adr rfl rfl rfl (op_eql (.base rfl) (.base rfl))) (
                    AS.cons _ _ rfl (ga_adr rfl rfl rfl (op_move (.base rfl))) (
                    AS.cons _ _ rfl (ga_gd _ _ _ _ rfl rfl rfl rfl rfl (fun hg => op_move (.base rfl))) (
                    AS.cons _ _ rfl (ga_gd _ _ _ _ rfl rfl rfl rfl rfl (fun hg => op_index Try.underlying25 ty36 (.gd rfl hg) (.base rfl) rfl (getD_some (z := ((0, 0) : TType)) (by first | omega | (simp; done) | (simp; omega) | (simp at hg; omega) | (simp at hg; simp; omega))))) (
                    AS.cons _ _ rfl (ga_gd _ _ _ _ rfl rfl rfl rfl rfl (fun hg => op_load ty36 (.gd rfl hg))) (
                    AS.cons _ _ rfl (ga_gd _ _ _ _ rfl rfl rfl rfl rfl (fun hg => op_move (.base rfl))) (
                    AS.cons _ _ rfl (ga_gd _ _ _ _ rfl rfl rfl rfl rfl (fun hg => op_index Try.underlying25 ty36 (.gd rfl hg) (.base rfl) rfl (getD_some (z := ((0, 0) : TType)) (by first | omega | (simp; done) | (simp; omega) | (simp at hg; omega) | (simp at hg; simp; omega))))) (
                    AS.cons _ _ rfl (ga_gd _ _ _ _ rfl rfl rfl rfl rfl (fun hg => op_load ty36 (.gd rfl hg))) (
                    AS.cons _ _ rfl (ga_gd _ _ _ _ rfl rfl rfl rfl rfl (fun hg => op_seql eq36 rfl rfl eg36 (.tv (.gd rfl hg)) (.tv (.gd rfl hg)))) (
                    AS.cons _ _ rfl (ga_adr rfl rfl rfl (op_pick_and (.base rfl) (.base rfl) rfl (by intro h; first | (rw [h]; rfl) | simp_all))) (
                    AS.cons _ _ rfl (ga_adr rfl rfl rfl (op_assign (.base rfl))) (
                    AS.nil)))))))))))))))) ?_
                refine jn_keep [6, 8, 9] [6, 8] (.cons rfl (.cons rfl (.cons rfl .nil))) (.cons rfl (.cons rfl .nil)) ?_
                refine jn_blk ?_
                exact jn_loop (fun a w hi => ⟨(), trivial, Sub.inv ⟨(by repeat (first | exact SubS_nil | refine SubS_cons rfl (by first | rfl | (refine congrArg (fun b => SV.raw (.bool b)) ?_; simp [resultT])) ?_)), (by repeat (first | exact SubH_nil | refine SubH_cons rfl (by first | rfl | (simp; done) | exact congrArg (HB.mk rType) (by simp [resultT])) ?_))⟩ hi⟩)
        · rintro _ -
          refine jn_seq (j_seq (j_seq ?_))
          refine j_region ?_
          refine jg_adr _ rfl _ rfl rfl (op_move (.base rfl)) ?_
          refine jg_adr _ rfl _ rfl rfl (op_not (.base rfl)) ?_
          refine jg_nil ?_
          refine jn_keep [6, 8, 84] [6, 8] (.cons rfl (.cons rfl (.cons rfl .nil))) (.cons rfl (.cons rfl .nil)) ?_
          refine jn_seq ?_
          refine j_cond rfl (fun h18 => ?_) (fun h18 => ?_)
          · try simp at h18
            refine j_seq ?_
            refine j_region ?_
            refine jg_adr _ rfl _ rfl rfl (op_build z36 rfl pl36 .nil) ?_
            refine jg_os _ rfl (op_ostore ty36 (.base rfl) rfl rfl (Lens.id _) (.tv (.base rfl))) ?_
            refine jg_adr _ rfl _ rfl rfl (op_assign (.base rfl)) ?_
            refine jg_nil ?_
            refine jn_keep [6, 7] [6] (.cons rfl (.cons rfl .nil)) (.cons rfl .nil) ?_
            refine jn_seq (j_ret (jr_seq ?_))
            exact jr_fin2 Try.results44 (res_cell ty36 rfl rfl rfl (Lens.id rType)) (res_tmp rfl) ⟨rfl, rfl⟩ (svT_eq (by unfold resultR; first | (simp [*]; done) | (simp_all; done)))
          · try simp at h18
            refine j_skip (jn_seq (j_seq ?_))
            refine j_region ?_
            refine jg_adr _ rfl _ rfl rfl (op_oload ty36 (.base rfl) rfl rfl (Lens.id _)) ?_
            refine jg_os _ rfl (op_ostore ty36 (.base rfl) rfl rfl (Lens.id _) (.tv (.base rfl))) ?_
            refine jg_adr _ rfl _ rfl rfl (op_assign (.base rfl)) ?_
            refine jg_nil ?_
            refine jn_keep [6, 7] [6] (.cons rfl (.cons rfl .nil)) (.cons rfl .nil) ?_
            refine jn_seq (j_ret ?_)
            exact jr_fin2 Try.results44 (res_cell ty36 rfl rfl rfl (Lens.id rType)) (res_tmp rfl) ⟨rfl, rfl⟩ (svT_eq (by unfold resultR; first | (simp [*]; done) | (simp_all; done)))

end Go.Proofs.Ytgoggdaohdablaa
