import Derived.Test.YtgoggdaohdablaaGreatP10e
namespace Go.Proofs.YtgoggdaohdablaaGreat
open Go.Eng
set_option maxRecDepth 100000
set_option maxHeartbeats 4000000
set_option linter.unusedVariables false
set_option linter.unusedSimpArgs false


def nthTab (l : List TTable) (n : Int) : TTable := l[n.toNat]?.getD ([], (0, 0), (0, 0), [])
theorem nthTab_eq {l : List TTable} {n : Int} (h : n.toNat < l.length) : nthTab l n = l[n.toNat] := by simp [nthTab, h]
def tabIx (d : TNode) : Int := if d.1 = 34 then d.2 / 8 else d.2
def tableType (d : TNode) (o : TType) (s : TSignature) : TType × Int :=
  if d.1 = 34 ∧ (d.2 < 0 ∨ validMode (d.2 % 8) = false) then ((0, 0), 3) else
  if tabIx d < 0 ∨ s.2.1.length ≤ tabIx d then ((0, 0), 6) else
  if validType (nthTab s.2.1 (tabIx d)).2.1 s.1 = false ∨ validType (nthTab s.2.1 (tabIx d)).2.2.1 s.1 = false ∨ o ≠ (nthTab s.2.1 (tabIx d)).2.1 then ((0, 0), 8) else
  if d.1 = 34 then (if (nthTab s.2.1 (tabIx d)).2.1.1 ≠ 3 ∨ (nthTab s.2.1 (tabIx d)).2.2.1.1 ≠ 4 then ((0, 0), 8) else ((nthTab s.2.1 (tabIx d)).2.1, 0)) else ((nthTab s.2.1 (tabIx d)).2.2.1, 0)

theorem tableType_ok (d : TNode) (o : TType) (s : TSignature) (hn : d.2 ≤ 9223372036854775807) : Ct Tryz.prog 44 [.tv rNode d, .tv rType o, .tv rSignature s] (svT (tableType d o s)) := by
  refine ct_intro Tryz.func44 rfl rfl Tryz.ntmps44 rfl rfl ?_
  intro w0 ok0
  refine j_seq ?_
  refine j_region ?_
  refine jg_os _ rfl (op_box (.tv (.base rfl)) rfl rfl rfl) ?_
  refine jg_os _ rfl (op_box (.tv (.base rfl)) rfl rfl rfl) ?_
  refine jg_os _ rfl (op_box (.tv (.base rfl)) rfl rfl rfl) ?_
  refine jg_os _ rfl (op_alloc _ z37 rfl rfl rfl) ?_
  refine jg_adr _ rfl _ rfl rfl (op_assign (.base rfl)) ?_
  refine jg_nil ?_
  refine jn_keep [3, 4, 5, 6] [3, 4, 5, 6] (.cons rfl (.cons rfl (.cons rfl (.cons rfl .nil)))) (.cons rfl (.cons rfl (.cons rfl (.cons rfl .nil)))) ?_
  refine jn_seq (j_seq ?_)
  refine j_region ?_
  refine jg_adr _ rfl _ rfl rfl (op_ofield fld56_1 (.base rfl)) ?_
  refine jg_adr _ rfl _ rfl rfl (op_oload ty3 (.base rfl) rfl rfl ln56_1) ?_
  refine jg_adr _ rfl _ rfl rfl (op_assign (.base rfl)) ?_
  refine jg_nil ?_
  refine jn_keep [3, 4, 5, 6, 8] [3, 4, 5, 6] (.cons rfl (.cons rfl (.cons rfl (.cons rfl (.cons rfl .nil))))) (.cons rfl (.cons rfl (.cons rfl (.cons rfl .nil)))) ?_
  refine jn_seq (j_seq (j_seq ?_))
  refine j_region ?_
  refine jg_adr _ rfl _ rfl rfl (op_ofield fld56_0 (.base rfl)) ?_
  refine jg_adr _ rfl _ rfl rfl (op_oload ty3 (.base rfl) rfl rfl ln56_0) ?_
  refine jg_adr _ rfl _ rfl rfl (op_eql (.base rfl) (.base rfl)) ?_
  refine jg_nil ?_
  refine jn_keep [3, 4, 5, 6, 8, 15] [3, 4, 5, 6] (.cons rfl (.cons rfl (.cons rfl (.cons rfl (.cons rfl (.cons rfl .nil)))))) (.cons rfl (.cons rfl (.cons rfl (.cons rfl .nil)))) ?_
  refine jn_seq ?_
  refine j_cond rfl (fun h2 => ?_) (fun h2 => ?_)
  · try simp at h2
    refine j_seq (j_seq ?_)
    refine j_region ?_
    refine jg_adr _ rfl _ rfl rfl (op_ofield fld56_1 (.base rfl)) ?_
    refine jg_adr _ rfl _ rfl rfl (op_oload ty3 (.base rfl) rfl rfl ln56_1) ?_
    refine jg_adr _ rfl _ rfl rfl (op_lss (.base rfl) (.base rfl)) ?_
    refine jg_adr _ rfl _ rfl rfl (op_move (.base rfl)) ?_
    refine jg_gd _ _ _ _ _ _ rfl rfl rfl rfl rfl (fun hg => op_ofield fld56_1 (.base rfl)) ?_
    refine jg_gd _ _ _ _ _ _ rfl rfl rfl rfl rfl (fun hg => op_oload ty3 (.gd rfl hg) rfl rfl ln56_1) ?_
    refine jg_gd _ _ _ _ _ _ rfl rfl rfl rfl rfl (fun hg => op_rem_e (.gd rfl hg) (.base rfl) (by omega) (rem64 (by simp at hg; omega))) ?_
    refine jg_gd _ _ _ _ _ _ rfl rfl rfl rfl rfl (fun hg => op_call (validMode_ok _) (.cons (.gd rfl hg) .nil) rfl rfl) ?_
    refine jg_gd _ _ _ _ _ _ rfl rfl rfl rfl rfl (fun hg => op_not (.gd rfl hg)) ?_
    refine jg_adr _ rfl _ rfl rfl (op_pick_or (.base rfl) (.base rfl) rfl (by intro h; first | (rw [h]; rfl) | (rw [hg, h]; rfl) | (rw [h, hg]; rfl) | simp_all)) ?_
    refine jg_nil ?_
    refine jn_keep [3, 4, 5, 6, 25] [3, 4, 5, 6] (.cons rfl (.cons rfl (.cons rfl (.cons rfl (.cons rfl .nil))))) (.cons rfl (.cons rfl (.cons rfl (.cons rfl .nil)))) ?_
    refine jn_seq ?_
    refine j_cond rfl (fun h3 => ?_) (fun h3 => ?_)
    · try simp at h3
      refine j_seq ?_
      refine j_region ?_
      refine jg_adr _ rfl _ rfl rfl (op_build z37 rfl pl37 .nil) ?_
      refine jg_os _ rfl (op_ostore ty37 (.base rfl) rfl rfl (Lens.id _) (.tv (.base rfl))) ?_
      refine jg_adr _ rfl _ rfl rfl (op_assign (.base rfl)) ?_
      refine jg_nil ?_
      refine jn_keep [6, 7] [6] (.cons rfl (.cons rfl .nil)) (.cons rfl .nil) ?_
      refine jn_seq (j_ret (jr_seq (jr_seq ?_)))
      exact jr_fin2 Tryz.results44 (res_cell ty37 rfl rfl rfl (Lens.id rType)) (res_tmp rfl) ⟨rfl, rfl⟩ (svT_eq (by (try (have ht := nthTab_eq (l := s.2.1) (n := d.2 / 8) (by omega); (try simp only [← ht] at h9); (try simp only [← ht] at h12); (try simp only [← ht]))); (try (have ht2 := nthTab_eq (l := s.2.1) (n := d.2) (by omega); (try simp only [← ht2] at h9); (try simp only [← ht2] at h12); (try simp only [← ht2]))); unfold tableType tabIx; (first | (rw [if_pos h2]; done) | skip); (repeat' split) <;> first | rfl | omega | (clear ok0; simp_all; done) | (clear ok0; simp_all; omega) | (exfalso; clear ok0; grind)))
    · try simp at h3
      refine j_skip (jn_seq ?_)
      refine j_region ?_
      refine jg_adr _ rfl _ rfl rfl (op_ofield fld56_1 (.base rfl)) ?_
      refine jg_adr _ rfl _ rfl rfl (op_oload ty3 (.base rfl) rfl rfl ln56_1) ?_
      refine jg_adr _ rfl _ rfl rfl (op_quo (.base rfl) (.base rfl) (by omega) (quo64 (by omega) hn (by omega))) ?_
      refine jg_adr _ rfl _ rfl rfl (op_assign (.base rfl)) ?_
      refine jg_nil ?_
      refine jn_keep [3, 4, 5, 6, 8] [3, 4, 5, 6] (.cons rfl (.cons rfl (.cons rfl (.cons rfl (.cons rfl .nil))))) (.cons rfl (.cons rfl (.cons rfl (.cons rfl .nil)))) ?_
      refine jn_seq (j_seq (j_seq ?_))
      refine j_region ?_
      refine jg_adr _ rfl _ rfl rfl (op_move (.base rfl)) ?_
      refine jg_adr _ rfl _ rfl rfl (op_lss (.base rfl) (.base rfl)) ?_
      refine jg_adr _ rfl _ rfl rfl (op_move (.base rfl)) ?_
      refine jg_gd _ _ _ _ _ _ rfl rfl rfl rfl rfl (fun hg => op_move (.base rfl)) ?_
      refine jg_gd _ _ _ _ _ _ rfl rfl rfl rfl rfl (fun hg => op_ofield fld27_1 (.base rfl)) ?_
      refine jg_gd _ _ _ _ _ _ rfl rfl rfl rfl rfl (fun hg => op_oload ty24 (.gd rfl hg) rfl rfl ln27_1) ?_
      refine jg_gd _ _ _ _ _ _ rfl rfl rfl rfl rfl (fun hg => op_len Tryz.underlying24 (.gd rfl hg)) ?_
      refine jg_gd _ _ _ _ _ _ rfl rfl rfl rfl rfl (fun hg => op_geq (.gd rfl hg) (.gd rfl hg)) ?_
      refine jg_adr _ rfl _ rfl rfl (op_pick_or (.base rfl) (.base rfl) rfl (by intro h; first | (rw [h]; rfl) | (rw [hg, h]; rfl) | (rw [h, hg]; rfl) | simp_all)) ?_
      refine jg_nil ?_
      refine jn_keep [3, 4, 5, 6, 8, 38] [3, 4, 5, 6] (.cons rfl (.cons rfl (.cons rfl (.cons rfl (.cons rfl (.cons rfl .nil)))))) (.cons rfl (.cons rfl (.cons rfl (.cons rfl .nil)))) ?_
      refine jn_seq ?_
      refine j_cond rfl (fun h6 => ?_) (fun h6 => ?_)
      · try simp at h6
        refine j_seq ?_
        refine j_region ?_
        refine jg_adr _ rfl _ rfl rfl (op_build z37 rfl pl37 .nil) ?_
        refine jg_os _ rfl (op_ostore ty37 (.base rfl) rfl rfl (Lens.id _) (.tv (.base rfl))) ?_
        refine jg_adr _ rfl _ rfl rfl (op_assign (.base rfl)) ?_
        refine jg_nil ?_
        refine jn_keep [6, 7] [6] (.cons rfl (.cons rfl .nil)) (.cons rfl .nil) ?_
        refine jn_seq (j_ret (jr_seq ?_))
        exact jr_fin2 Tryz.results44 (res_cell ty37 rfl rfl rfl (Lens.id rType)) (res_tmp rfl) ⟨rfl, rfl⟩ (svT_eq (by (try (have ht := nthTab_eq (l := s.2.1) (n := d.2 / 8) (by omega); (try simp only [← ht] at h9); (try simp only [← ht] at h12); (try simp only [← ht]))); (try (have ht2 := nthTab_eq (l := s.2.1) (n := d.2) (by omega); (try simp only [← ht2] at h9); (try simp only [← ht2] at h12); (try simp only [← ht2]))); unfold tableType tabIx; (first | (rw [if_pos h2]; done) | skip); (repeat' split) <;> first | rfl | omega | (clear ok0; simp_all; done) | (clear ok0; simp_all; omega) | (exfalso; clear ok0; grind)))
      · try simp at h6
        refine j_skip (jn_seq (j_seq ?_))
        have hb := h6.2
        refine j_drawE mo (by kernel_rfl) (
          AE.cons _ _ _ rfl (gh_ga [5] (ga_adr rfl rfl rfl (op_ofield fld27_1 (.base rfl))) (by kernel_rfl)) (
          AE.cons _ _ _ rfl (gh_ga [5] (ga_adr rfl rfl rfl (op_oload ty24 (.base rfl) rfl rfl ln27_1)) (by kernel_rfl)) (
          AE.cons _ _ _ rfl (gh_ga [] (ga_adr rfl rfl rfl (op_move (.base rfl))) (by kernel_rfl)) (
          AE.cons _ _ _ rfl (gh_ga [] (ga_adr rfl rfl rfl (op_index Tryz.underlying24 ty114 (.base rfl) (.base rfl) (Int.toNat_of_nonneg h6.1).symm (List.getElem?_eq_getElem (by first | omega | (simp; done) | (simp; omega) | (simp at hg; omega))))) (by kernel_rfl)) (
          AE.cons _ _ _ rfl (gh_ga [] (ga_adr rfl rfl rfl (op_field fld114_1 ln114_1 (.base rfl))) (by kernel_rfl)) (
          AE.cons _ _ _ rfl (gh_ga [] (ga_adr rfl rfl rfl (op_load ty37 (.base rfl))) (by kernel_rfl)) (
          AE.cons _ _ _ rfl (gh_ga [5] (ga_adr rfl rfl rfl (op_ofield fld27_1 (.base rfl))) (by kernel_rfl)) (
          AE.cons _ _ _ rfl (gh_ga [5] (ga_adr rfl rfl rfl (op_oload ty24 (.base rfl) rfl rfl ln27_1)) (by kernel_rfl)) (
          AE.cons _ _ _ rfl (gh_ga [] (ga_adr rfl rfl rfl (op_move (.base rfl))) (by kernel_rfl)) (
          AE.cons _ _ _ rfl (gh_ga [] (ga_adr rfl rfl rfl (op_index Tryz.underlying24 ty114 (.base rfl) (.base rfl) (Int.toNat_of_nonneg h6.1).symm (List.getElem?_eq_getElem (by first | omega | (simp; done) | (simp; omega) | (simp at hg; omega))))) (by kernel_rfl)) (
          AE.cons _ _ _ rfl (gh_ga [] (ga_adr rfl rfl rfl (op_field fld114_2 ln114_2 (.base rfl))) (by kernel_rfl)) (
          AE.cons _ _ _ rfl (gh_ga [] (ga_adr rfl rfl rfl (op_load ty37 (.base rfl))) (by kernel_rfl)) (
          AE.cons _ _ _ rfl (gh_alloc _ z37 rfl) (
          AE.cons _ _ _ rfl (gh_alloc _ z37 rfl) (
          AE.cons _ _ _ rfl (gh_store ty37 (.base rfl) rfl rfl (Lens.id _) (.tv (.base rfl))) (
          AE.cons _ _ _ rfl (gh_store ty37 (.base rfl) rfl rfl (Lens.id _) (.tv (.base rfl))) (
          AE.nil))))))))))))))))) (by kernel_rfl) ?_
        refine jn_keep [3, 4, 5, 6, 9, 10] [3, 4, 5, 6, 9, 10] (.cons rfl (.cons rfl (.cons rfl (.cons rfl (.cons rfl (.cons rfl .nil)))))) (.cons rfl (.cons rfl (.cons rfl (.cons rfl (.cons rfl (.cons rfl .nil)))))) ?_
        refine jn_seq (j_seq (j_seq ?_))
        refine j_region ?_
        refine jg_adr _ rfl _ rfl rfl (op_oload ty37 (.base rfl) rfl rfl (Lens.id _)) ?_
        refine jg_adr _ rfl _ rfl rfl (op_ofield fld27_0 (.base rfl)) ?_
        refine jg_adr _ rfl _ rfl rfl (op_oload ty23 (.base rfl) rfl rfl ln27_0) ?_
        refine jg_adr _ rfl _ rfl rfl (op_call (validType_ok _ _) (.cons (.base rfl) (.cons (.base rfl) .nil)) rfl rfl) ?_
        refine jg_adr _ rfl _ rfl rfl (op_not (.base rfl)) ?_
        refine jg_adr _ rfl _ rfl rfl (op_move (.base rfl)) ?_
        refine jg_gd _ _ _ _ _ _ rfl rfl rfl rfl rfl (fun hg => op_oload ty37 (.base rfl) rfl rfl (Lens.id _)) ?_
        refine jg_gd _ _ _ _ _ _ rfl rfl rfl rfl rfl (fun hg => op_ofield fld27_0 (.base rfl)) ?_
        refine jg_gd _ _ _ _ _ _ rfl rfl rfl rfl rfl (fun hg => op_oload ty23 (.gd rfl hg) rfl rfl ln27_0) ?_
        refine jg_gd _ _ _ _ _ _ rfl rfl rfl rfl rfl (fun hg => op_call (validType_ok _ _) (.cons (.gd rfl hg) (.cons (.gd rfl hg) .nil)) rfl rfl) ?_
        refine jg_gd _ _ _ _ _ _ rfl rfl rfl rfl rfl (fun hg => op_not (.gd rfl hg)) ?_
        refine jg_adr _ rfl _ rfl rfl (op_pick_or (.base rfl) (.base rfl) rfl (by intro h; first | (rw [h]; rfl) | (rw [hg, h]; rfl) | (rw [h, hg]; rfl) | simp_all)) ?_
        refine jg_adr _ rfl _ rfl rfl (op_move (.base rfl)) ?_
        refine jg_gd _ _ _ _ _ _ rfl rfl rfl rfl rfl (fun hg => op_oload ty37 (.base rfl) rfl rfl (Lens.id _)) ?_
        refine jg_gd _ _ _ _ _ _ rfl rfl rfl rfl rfl (fun hg => op_oload ty37 (.base rfl) rfl rfl (Lens.id _)) ?_
        refine jg_gd _ _ _ _ _ _ rfl rfl rfl rfl rfl (fun hg => op_sneq eq37 rfl rfl eg37 (.tv (.gd rfl hg)) (.tv (.gd rfl hg))) ?_
        refine jg_adr _ rfl _ rfl rfl (op_pick_or (.base rfl) (.base rfl) rfl (by intro h; first | (rw [h]; rfl) | (rw [hg, h]; rfl) | (rw [h, hg]; rfl) | simp_all)) ?_
        refine jg_nil ?_
        refine jn_keep [3, 6, 9, 10, 68] [3, 6, 9, 10] (.cons rfl (.cons rfl (.cons rfl (.cons rfl (.cons rfl .nil))))) (.cons rfl (.cons rfl (.cons rfl (.cons rfl .nil)))) ?_
        refine jn_seq ?_
        refine j_cond rfl (fun h9 => ?_) (fun h9 => ?_)
        · try simp at h9
          refine j_seq ?_
          refine j_region ?_
          refine jg_adr _ rfl _ rfl rfl (op_build z37 rfl pl37 .nil) ?_
          refine jg_os _ rfl (op_ostore ty37 (.base rfl) rfl rfl (Lens.id _) (.tv (.base rfl))) ?_
          refine jg_adr _ rfl _ rfl rfl (op_assign (.base rfl)) ?_
          refine jg_nil ?_
          refine jn_keep [6, 7] [6] (.cons rfl (.cons rfl .nil)) (.cons rfl .nil) ?_
          refine jn_seq (j_ret (jr_seq ?_))
          exact jr_fin2 Tryz.results44 (res_cell ty37 rfl rfl rfl (Lens.id rType)) (res_tmp rfl) ⟨rfl, rfl⟩ (svT_eq (by (try (have ht := nthTab_eq (l := s.2.1) (n := d.2 / 8) (by omega); (try simp only [← ht] at h9); (try simp only [← ht] at h12); (try simp only [← ht]))); (try (have ht2 := nthTab_eq (l := s.2.1) (n := d.2) (by omega); (try simp only [← ht2] at h9); (try simp only [← ht2] at h12); (try simp only [← ht2]))); unfold tableType tabIx; (first | (rw [if_pos h2]; done) | skip); (repeat' split) <;> first | rfl | omega | (clear ok0; simp_all; done) | (clear ok0; simp_all; omega) | (exfalso; clear ok0; grind)))
        · try simp at h9
          refine j_skip (jn_seq (j_seq (j_seq ?_)))
          refine j_region ?_
          refine jg_adr _ rfl _ rfl rfl (op_ofield fld56_0 (.base rfl)) ?_
          refine jg_adr _ rfl _ rfl rfl (op_oload ty3 (.base rfl) rfl rfl ln56_0) ?_
          refine jg_adr _ rfl _ rfl rfl (op_eql (.base rfl) (.base rfl)) ?_
          refine jg_nil ?_
          refine jn_keep [6, 9, 10, 72] [6, 9, 10] (.cons rfl (.cons rfl (.cons rfl (.cons rfl .nil)))) (.cons rfl (.cons rfl (.cons rfl .nil))) ?_
          refine jn_seq ?_
          refine j_cond rfl (fun h11 => ?_) (fun h11 => ?_)
          · try simp at h11
            refine j_seq (j_seq ?_)
            refine j_region ?_
            refine jg_adr _ rfl _ rfl rfl (op_ofield fld37_0 (.base rfl)) ?_
            refine jg_adr _ rfl _ rfl rfl (op_oload ty3 (.base rfl) rfl rfl ln37_0) ?_
            refine jg_adr _ rfl _ rfl rfl (op_neq (.base rfl) (.base rfl)) ?_
            refine jg_adr _ rfl _ rfl rfl (op_move (.base rfl)) ?_
            refine jg_gd _ _ _ _ _ _ rfl rfl rfl rfl rfl (fun hg => op_ofield fld37_0 (.base rfl)) ?_
            refine jg_gd _ _ _ _ _ _ rfl rfl rfl rfl rfl (fun hg => op_oload ty3 (.gd rfl hg) rfl rfl ln37_0) ?_
            refine jg_gd _ _ _ _ _ _ rfl rfl rfl rfl rfl (fun hg => op_neq (.gd rfl hg) (.base rfl)) ?_
            refine jg_adr _ rfl _ rfl rfl (op_pick_or (.base rfl) (.base rfl) rfl (by intro h; first | (rw [h]; rfl) | (rw [hg, h]; rfl) | (rw [h, hg]; rfl) | simp_all)) ?_
            refine jg_nil ?_
            refine jn_keep [6, 9, 80] [6, 9] (.cons rfl (.cons rfl (.cons rfl .nil))) (.cons rfl (.cons rfl .nil)) ?_
            refine jn_seq ?_
            refine j_cond rfl (fun h12 => ?_) (fun h12 => ?_)
            · try simp at h12
              refine j_seq ?_
              refine j_region ?_
              refine jg_adr _ rfl _ rfl rfl (op_build z37 rfl pl37 .nil) ?_
              refine jg_os _ rfl (op_ostore ty37 (.base rfl) rfl rfl (Lens.id _) (.tv (.base rfl))) ?_
              refine jg_adr _ rfl _ rfl rfl (op_assign (.base rfl)) ?_
              refine jg_nil ?_
              refine jn_keep [6, 7] [6] (.cons rfl (.cons rfl .nil)) (.cons rfl .nil) ?_
              refine jn_seq (j_ret (jr_seq (jr_seq ?_)))
              exact jr_fin2 Tryz.results44 (res_cell ty37 rfl rfl rfl (Lens.id rType)) (res_tmp rfl) ⟨rfl, rfl⟩ (svT_eq (by (try (have ht := nthTab_eq (l := s.2.1) (n := d.2 / 8) (by omega); (try simp only [← ht] at h9); (try simp only [← ht] at h12); (try simp only [← ht]))); (try (have ht2 := nthTab_eq (l := s.2.1) (n := d.2) (by omega); (try simp only [← ht2] at h9); (try simp only [← ht2] at h12); (try simp only [← ht2]))); unfold tableType tabIx; (first | (rw [if_pos h2]; done) | skip); (repeat' split) <;> first | rfl | omega | (clear ok0; simp_all; done) | (clear ok0; simp_all; omega) | (exfalso; clear ok0; grind)))
            · try simp at h12
              refine j_skip (jn_seq (j_seq ?_))
              refine j_region ?_
              refine jg_adr _ rfl _ rfl rfl (op_oload ty37 (.base rfl) rfl rfl (Lens.id _)) ?_
              refine jg_os _ rfl (op_ostore ty37 (.base rfl) rfl rfl (Lens.id _) (.tv (.base rfl))) ?_
              refine jg_adr _ rfl _ rfl rfl (op_assign (.base rfl)) ?_
              refine jg_nil ?_
              refine jn_keep [6, 7] [6] (.cons rfl (.cons rfl .nil)) (.cons rfl .nil) ?_
              refine jn_seq (j_ret (jr_seq ?_))
              exact jr_fin2 Tryz.results44 (res_cell ty37 rfl rfl rfl (Lens.id rType)) (res_tmp rfl) ⟨rfl, rfl⟩ (svT_eq (by (try (have ht := nthTab_eq (l := s.2.1) (n := d.2 / 8) (by omega); (try simp only [← ht] at h9); (try simp only [← ht] at h12); (try simp only [← ht]))); (try (have ht2 := nthTab_eq (l := s.2.1) (n := d.2) (by omega); (try simp only [← ht2] at h9); (try simp only [← ht2] at h12); (try simp only [← ht2]))); unfold tableType tabIx; (first | (rw [if_pos h2]; done) | skip); (repeat' split) <;> first | rfl | omega | (clear ok0; simp_all; done) | (clear ok0; simp_all; omega) | (exfalso; clear ok0; grind)))
          · try simp at h11
            refine j_skip (jn_seq (j_seq ?_))
            refine j_region ?_
            refine jg_adr _ rfl _ rfl rfl (op_oload ty37 (.base rfl) rfl rfl (Lens.id _)) ?_
            refine jg_os _ rfl (op_ostore ty37 (.base rfl) rfl rfl (Lens.id _) (.tv (.base rfl))) ?_
            refine jg_adr _ rfl _ rfl rfl (op_assign (.base rfl)) ?_
            refine jg_nil ?_
            refine jn_keep [6, 7] [6] (.cons rfl (.cons rfl .nil)) (.cons rfl .nil) ?_
            refine jn_seq (j_ret ?_)
            exact jr_fin2 Tryz.results44 (res_cell ty37 rfl rfl rfl (Lens.id rType)) (res_tmp rfl) ⟨rfl, rfl⟩ (svT_eq (by (try (have ht := nthTab_eq (l := s.2.1) (n := d.2 / 8) (by omega); (try simp only [← ht] at h9); (try simp only [← ht] at h12); (try simp only [← ht]))); (try (have ht2 := nthTab_eq (l := s.2.1) (n := d.2) (by omega); (try simp only [← ht2] at h9); (try simp only [← ht2] at h12); (try simp only [← ht2]))); unfold tableType tabIx; (first | (rw [if_pos h2]; done) | skip); (repeat' split) <;> first | rfl | omega | (clear ok0; simp_all; done) | (clear ok0; simp_all; omega) | (exfalso; clear ok0; grind)))
  · try simp at h2
    refine j_skip (jn_seq (j_seq (j_seq ?_)))
    refine j_region ?_
    refine jg_adr _ rfl _ rfl rfl (op_move (.base rfl)) ?_
    refine jg_adr _ rfl _ rfl rfl (op_lss (.base rfl) (.base rfl)) ?_
    refine jg_adr _ rfl _ rfl rfl (op_move (.base rfl)) ?_
    refine jg_gd _ _ _ _ _ _ rfl rfl rfl rfl rfl (fun hg => op_move (.base rfl)) ?_
    refine jg_gd _ _ _ _ _ _ rfl rfl rfl rfl rfl (fun hg => op_ofield fld27_1 (.base rfl)) ?_
    refine jg_gd _ _ _ _ _ _ rfl rfl rfl rfl rfl (fun hg => op_oload ty24 (.gd rfl hg) rfl rfl ln27_1) ?_
    refine jg_gd _ _ _ _ _ _ rfl rfl rfl rfl rfl (fun hg => op_len Tryz.underlying24 (.gd rfl hg)) ?_
    refine jg_gd _ _ _ _ _ _ rfl rfl rfl rfl rfl (fun hg => op_geq (.gd rfl hg) (.gd rfl hg)) ?_
    refine jg_adr _ rfl _ rfl rfl (op_pick_or (.base rfl) (.base rfl) rfl (by intro h; first | (rw [h]; rfl) | (rw [hg, h]; rfl) | (rw [h, hg]; rfl) | simp_all)) ?_
    refine jg_nil ?_
    refine jn_keep [3, 4, 5, 6, 8, 38] [3, 4, 5, 6] (.cons rfl (.cons rfl (.cons rfl (.cons rfl (.cons rfl (.cons rfl .nil)))))) (.cons rfl (.cons rfl (.cons rfl (.cons rfl .nil)))) ?_
    refine jn_seq ?_
    refine j_cond rfl (fun h6 => ?_) (fun h6 => ?_)
    · try simp at h6
      refine j_seq ?_
      refine j_region ?_
      refine jg_adr _ rfl _ rfl rfl (op_build z37 rfl pl37 .nil) ?_
      refine jg_os _ rfl (op_ostore ty37 (.base rfl) rfl rfl (Lens.id _) (.tv (.base rfl))) ?_
      refine jg_adr _ rfl _ rfl rfl (op_assign (.base rfl)) ?_
      refine jg_nil ?_
      refine jn_keep [6, 7] [6] (.cons rfl (.cons rfl .nil)) (.cons rfl .nil) ?_
      refine jn_seq (j_ret (jr_seq ?_))
      exact jr_fin2 Tryz.results44 (res_cell ty37 rfl rfl rfl (Lens.id rType)) (res_tmp rfl) ⟨rfl, rfl⟩ (svT_eq (by (try (have ht := nthTab_eq (l := s.2.1) (n := d.2 / 8) (by omega); (try simp only [← ht] at h9); (try simp only [← ht] at h12); (try simp only [← ht]))); (try (have ht2 := nthTab_eq (l := s.2.1) (n := d.2) (by omega); (try simp only [← ht2] at h9); (try simp only [← ht2] at h12); (try simp only [← ht2]))); unfold tableType tabIx; (first | (rw [if_pos h2]; done) | skip); (repeat' split) <;> first | rfl | omega | (clear ok0; simp_all; done) | (clear ok0; simp_all; omega) | (exfalso; clear ok0; grind)))
    · try simp at h6
      refine j_skip (jn_seq (j_seq ?_))
      have hb := h6.2
      refine j_drawE mo (by kernel_rfl) (
        AE.cons _ _ _ rfl (gh_ga [5] (ga_adr rfl rfl rfl (op_ofield fld27_1 (.base rfl))) (by kernel_rfl)) (
        AE.cons _ _ _ rfl (gh_ga [5] (ga_adr rfl rfl rfl (op_oload ty24 (.base rfl) rfl rfl ln27_1)) (by kernel_rfl)) (
        AE.cons _ _ _ rfl (gh_ga [] (ga_adr rfl rfl rfl (op_move (.base rfl))) (by kernel_rfl)) (
        AE.cons _ _ _ rfl (gh_ga [] (ga_adr rfl rfl rfl (op_index Tryz.underlying24 ty114 (.base rfl) (.base rfl) (Int.toNat_of_nonneg h6.1).symm (List.getElem?_eq_getElem (by first | omega | (simp; done) | (simp; omega) | (simp at hg; omega))))) (by kernel_rfl)) (
        AE.cons _ _ _ rfl (gh_ga [] (ga_adr rfl rfl rfl (op_field fld114_1 ln114_1 (.base rfl))) (by kernel_rfl)) (
        AE.cons _ _ _ rfl (gh_ga [] (ga_adr rfl rfl rfl (op_load ty37 (.base rfl))) (by kernel_rfl)) (
        AE.cons _ _ _ rfl (gh_ga [5] (ga_adr rfl rfl rfl (op_ofield fld27_1 (.base rfl))) (by kernel_rfl)) (
        AE.cons _ _ _ rfl (gh_ga [5] (ga_adr rfl rfl rfl (op_oload ty24 (.base rfl) rfl rfl ln27_1)) (by kernel_rfl)) (
        AE.cons _ _ _ rfl (gh_ga [] (ga_adr rfl rfl rfl (op_move (.base rfl))) (by kernel_rfl)) (
        AE.cons _ _ _ rfl (gh_ga [] (ga_adr rfl rfl rfl (op_index Tryz.underlying24 ty114 (.base rfl) (.base rfl) (Int.toNat_of_nonneg h6.1).symm (List.getElem?_eq_getElem (by first | omega | (simp; done) | (simp; omega) | (simp at hg; omega))))) (by kernel_rfl)) (
        AE.cons _ _ _ rfl (gh_ga [] (ga_adr rfl rfl rfl (op_field fld114_2 ln114_2 (.base rfl))) (by kernel_rfl)) (
        AE.cons _ _ _ rfl (gh_ga [] (ga_adr rfl rfl rfl (op_load ty37 (.base rfl))) (by kernel_rfl)) (
        AE.cons _ _ _ rfl (gh_alloc _ z37 rfl) (
        AE.cons _ _ _ rfl (gh_alloc _ z37 rfl) (
        AE.cons _ _ _ rfl (gh_store ty37 (.base rfl) rfl rfl (Lens.id _) (.tv (.base rfl))) (
        AE.cons _ _ _ rfl (gh_store ty37 (.base rfl) rfl rfl (Lens.id _) (.tv (.base rfl))) (
        AE.nil))))))))))))))))) (by kernel_rfl) ?_
      refine jn_keep [3, 4, 5, 6, 9, 10] [3, 4, 5, 6, 9, 10] (.cons rfl (.cons rfl (.cons rfl (.cons rfl (.cons rfl (.cons rfl .nil)))))) (.cons rfl (.cons rfl (.cons rfl (.cons rfl (.cons rfl (.cons rfl .nil)))))) ?_
      refine jn_seq (j_seq (j_seq ?_))
      refine j_region ?_
      refine jg_adr _ rfl _ rfl rfl (op_oload ty37 (.base rfl) rfl rfl (Lens.id _)) ?_
      refine jg_adr _ rfl _ rfl rfl (op_ofield fld27_0 (.base rfl)) ?_
      refine jg_adr _ rfl _ rfl rfl (op_oload ty23 (.base rfl) rfl rfl ln27_0) ?_
      refine jg_adr _ rfl _ rfl rfl (op_call (validType_ok _ _) (.cons (.base rfl) (.cons (.base rfl) .nil)) rfl rfl) ?_
      refine jg_adr _ rfl _ rfl rfl (op_not (.base rfl)) ?_
      refine jg_adr _ rfl _ rfl rfl (op_move (.base rfl)) ?_
      refine jg_gd _ _ _ _ _ _ rfl rfl rfl rfl rfl (fun hg => op_oload ty37 (.base rfl) rfl rfl (Lens.id _)) ?_
      refine jg_gd _ _ _ _ _ _ rfl rfl rfl rfl rfl (fun hg => op_ofield fld27_0 (.base rfl)) ?_
      refine jg_gd _ _ _ _ _ _ rfl rfl rfl rfl rfl (fun hg => op_oload ty23 (.gd rfl hg) rfl rfl ln27_0) ?_
      refine jg_gd _ _ _ _ _ _ rfl rfl rfl rfl rfl (fun hg => op_call (validType_ok _ _) (.cons (.gd rfl hg) (.cons (.gd rfl hg) .nil)) rfl rfl) ?_
      refine jg_gd _ _ _ _ _ _ rfl rfl rfl rfl rfl (fun hg => op_not (.gd rfl hg)) ?_
      refine jg_adr _ rfl _ rfl rfl (op_pick_or (.base rfl) (.base rfl) rfl (by intro h; first | (rw [h]; rfl) | (rw [hg, h]; rfl) | (rw [h, hg]; rfl) | simp_all)) ?_
      refine jg_adr _ rfl _ rfl rfl (op_move (.base rfl)) ?_
      refine jg_gd _ _ _ _ _ _ rfl rfl rfl rfl rfl (fun hg => op_oload ty37 (.base rfl) rfl rfl (Lens.id _)) ?_
      refine jg_gd _ _ _ _ _ _ rfl rfl rfl rfl rfl (fun hg => op_oload ty37 (.base rfl) rfl rfl (Lens.id _)) ?_
      refine jg_gd _ _ _ _ _ _ rfl rfl rfl rfl rfl (fun hg => op_sneq eq37 rfl rfl eg37 (.tv (.gd rfl hg)) (.tv (.gd rfl hg))) ?_
      refine jg_adr _ rfl _ rfl rfl (op_pick_or (.base rfl) (.base rfl) rfl (by intro h; first | (rw [h]; rfl) | (rw [hg, h]; rfl) | (rw [h, hg]; rfl) | simp_all)) ?_
      refine jg_nil ?_
      refine jn_keep [3, 6, 9, 10, 68] [3, 6, 9, 10] (.cons rfl (.cons rfl (.cons rfl (.cons rfl (.cons rfl .nil))))) (.cons rfl (.cons rfl (.cons rfl (.cons rfl .nil)))) ?_
      refine jn_seq ?_
      refine j_cond rfl (fun h9 => ?_) (fun h9 => ?_)
      · try simp at h9
        refine j_seq ?_
        refine j_region ?_
        refine jg_adr _ rfl _ rfl rfl (op_build z37 rfl pl37 .nil) ?_
        refine jg_os _ rfl (op_ostore ty37 (.base rfl) rfl rfl (Lens.id _) (.tv (.base rfl))) ?_
        refine jg_adr _ rfl _ rfl rfl (op_assign (.base rfl)) ?_
        refine jg_nil ?_
        refine jn_keep [6, 7] [6] (.cons rfl (.cons rfl .nil)) (.cons rfl .nil) ?_
        refine jn_seq (j_ret (jr_seq ?_))
        exact jr_fin2 Tryz.results44 (res_cell ty37 rfl rfl rfl (Lens.id rType)) (res_tmp rfl) ⟨rfl, rfl⟩ (svT_eq (by (try (have ht := nthTab_eq (l := s.2.1) (n := d.2 / 8) (by omega); (try simp only [← ht] at h9); (try simp only [← ht] at h12); (try simp only [← ht]))); (try (have ht2 := nthTab_eq (l := s.2.1) (n := d.2) (by omega); (try simp only [← ht2] at h9); (try simp only [← ht2] at h12); (try simp only [← ht2]))); unfold tableType tabIx; (first | (rw [if_pos h2]; done) | skip); (repeat' split) <;> first | rfl | omega | (clear ok0; simp_all; done) | (clear ok0; simp_all; omega) | (exfalso; clear ok0; grind)))
      · try simp at h9
        refine j_skip (jn_seq (j_seq (j_seq ?_)))
        refine j_region ?_
        refine jg_adr _ rfl _ rfl rfl (op_ofield fld56_0 (.base rfl)) ?_
        refine jg_adr _ rfl _ rfl rfl (op_oload ty3 (.base rfl) rfl rfl ln56_0) ?_
        refine jg_adr _ rfl _ rfl rfl (op_eql (.base rfl) (.base rfl)) ?_
        refine jg_nil ?_
        refine jn_keep [6, 9, 10, 72] [6, 9, 10] (.cons rfl (.cons rfl (.cons rfl (.cons rfl .nil)))) (.cons rfl (.cons rfl (.cons rfl .nil))) ?_
        refine jn_seq ?_
        refine j_cond rfl (fun h11 => ?_) (fun h11 => ?_)
        · try simp at h11
          refine j_seq (j_seq ?_)
          refine j_region ?_
          refine jg_adr _ rfl _ rfl rfl (op_ofield fld37_0 (.base rfl)) ?_
          refine jg_adr _ rfl _ rfl rfl (op_oload ty3 (.base rfl) rfl rfl ln37_0) ?_
          refine jg_adr _ rfl _ rfl rfl (op_neq (.base rfl) (.base rfl)) ?_
          refine jg_adr _ rfl _ rfl rfl (op_move (.base rfl)) ?_
          refine jg_gd _ _ _ _ _ _ rfl rfl rfl rfl rfl (fun hg => op_ofield fld37_0 (.base rfl)) ?_
          refine jg_gd _ _ _ _ _ _ rfl rfl rfl rfl rfl (fun hg => op_oload ty3 (.gd rfl hg) rfl rfl ln37_0) ?_
          refine jg_gd _ _ _ _ _ _ rfl rfl rfl rfl rfl (fun hg => op_neq (.gd rfl hg) (.base rfl)) ?_
          refine jg_adr _ rfl _ rfl rfl (op_pick_or (.base rfl) (.base rfl) rfl (by intro h; first | (rw [h]; rfl) | (rw [hg, h]; rfl) | (rw [h, hg]; rfl) | simp_all)) ?_
          refine jg_nil ?_
          refine jn_keep [6, 9, 80] [6, 9] (.cons rfl (.cons rfl (.cons rfl .nil))) (.cons rfl (.cons rfl .nil)) ?_
          refine jn_seq ?_
          refine j_cond rfl (fun h12 => ?_) (fun h12 => ?_)
          · try simp at h12
            refine j_seq ?_
            refine j_region ?_
            refine jg_adr _ rfl _ rfl rfl (op_build z37 rfl pl37 .nil) ?_
            refine jg_os _ rfl (op_ostore ty37 (.base rfl) rfl rfl (Lens.id _) (.tv (.base rfl))) ?_
            refine jg_adr _ rfl _ rfl rfl (op_assign (.base rfl)) ?_
            refine jg_nil ?_
            refine jn_keep [6, 7] [6] (.cons rfl (.cons rfl .nil)) (.cons rfl .nil) ?_
            refine jn_seq (j_ret (jr_seq (jr_seq ?_)))
            exact jr_fin2 Tryz.results44 (res_cell ty37 rfl rfl rfl (Lens.id rType)) (res_tmp rfl) ⟨rfl, rfl⟩ (svT_eq (by (try (have ht := nthTab_eq (l := s.2.1) (n := d.2 / 8) (by omega); (try simp only [← ht] at h9); (try simp only [← ht] at h12); (try simp only [← ht]))); (try (have ht2 := nthTab_eq (l := s.2.1) (n := d.2) (by omega); (try simp only [← ht2] at h9); (try simp only [← ht2] at h12); (try simp only [← ht2]))); unfold tableType tabIx; (first | (rw [if_pos h2]; done) | skip); (repeat' split) <;> first | rfl | omega | (clear ok0; simp_all; done) | (clear ok0; simp_all; omega) | (exfalso; clear ok0; grind)))
          · try simp at h12
            refine j_skip (jn_seq (j_seq ?_))
            refine j_region ?_
            refine jg_adr _ rfl _ rfl rfl (op_oload ty37 (.base rfl) rfl rfl (Lens.id _)) ?_
            refine jg_os _ rfl (op_ostore ty37 (.base rfl) rfl rfl (Lens.id _) (.tv (.base rfl))) ?_
            refine jg_adr _ rfl _ rfl rfl (op_assign (.base rfl)) ?_
            refine jg_nil ?_
            refine jn_keep [6, 7] [6] (.cons rfl (.cons rfl .nil)) (.cons rfl .nil) ?_
            refine jn_seq (j_ret (jr_seq ?_))
            exact jr_fin2 Tryz.results44 (res_cell ty37 rfl rfl rfl (Lens.id rType)) (res_tmp rfl) ⟨rfl, rfl⟩ (svT_eq (by (try (have ht := nthTab_eq (l := s.2.1) (n := d.2 / 8) (by omega); (try simp only [← ht] at h9); (try simp only [← ht] at h12); (try simp only [← ht]))); (try (have ht2 := nthTab_eq (l := s.2.1) (n := d.2) (by omega); (try simp only [← ht2] at h9); (try simp only [← ht2] at h12); (try simp only [← ht2]))); unfold tableType tabIx; (first | (rw [if_pos h2]; done) | skip); (repeat' split) <;> first | rfl | omega | (clear ok0; simp_all; done) | (clear ok0; simp_all; omega) | (exfalso; clear ok0; grind)))
        · try simp at h11
          refine j_skip (jn_seq (j_seq ?_))
          refine j_region ?_
          refine jg_adr _ rfl _ rfl rfl (op_oload ty37 (.base rfl) rfl rfl (Lens.id _)) ?_
          refine jg_os _ rfl (op_ostore ty37 (.base rfl) rfl rfl (Lens.id _) (.tv (.base rfl))) ?_
          refine jg_adr _ rfl _ rfl rfl (op_assign (.base rfl)) ?_
          refine jg_nil ?_
          refine jn_keep [6, 7] [6] (.cons rfl (.cons rfl .nil)) (.cons rfl .nil) ?_
          refine jn_seq (j_ret ?_)
          exact jr_fin2 Tryz.results44 (res_cell ty37 rfl rfl rfl (Lens.id rType)) (res_tmp rfl) ⟨rfl, rfl⟩ (svT_eq (by (try (have ht := nthTab_eq (l := s.2.1) (n := d.2 / 8) (by omega); (try simp only [← ht] at h9); (try simp only [← ht] at h12); (try simp only [← ht]))); (try (have ht2 := nthTab_eq (l := s.2.1) (n := d.2) (by omega); (try simp only [← ht2] at h9); (try simp only [← ht2] at h12); (try simp only [← ht2]))); unfold tableType tabIx; (first | (rw [if_pos h2]; done) | skip); (repeat' split) <;> first | rfl | omega | (clear ok0; simp_all; done) | (clear ok0; simp_all; omega) | (exfalso; clear ok0; grind)))

end Go.Proofs.YtgoggdaohdablaaGreat
