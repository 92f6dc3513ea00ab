import Derived.Test.YtgoggdaohdablaaGreatP10f
namespace Go.Proofs.YtgoggdaohdablaaGreat
open Go.Eng
set_option maxRecDepth 100000
set_option maxHeartbeats 4000000
set_option linter.unusedVariables false
set_option linter.unusedSimpArgs false


def resultType (op : Int) (l : List TType) : TType × Bool := match l with
  | [a] => if op = 10 then (a, isNumber a.1) else if op = 25 then ((1, 0), a.1 == 1) else if op = 31 ∨ op = 32 then ((2, 0), a.1 == 5) else ((0, 0), false)
  | [a, b] => if op = 11 ∨ op = 12 then (a, a == b && isNumber a.1) else if op = 13 ∨ op = 14 ∨ op = 15 then productType op a.1 b.1 else if op = 16 then (a, a.1 == 3 && b.1 == 3)
    else if op = 17 ∨ op = 18 then (a, a == b && (isNumber a.1 || a.1 == 5)) else if op = 19 ∨ op = 20 then ((1, 0), a == b) else if op = 21 ∨ op = 22 then ((1, 0), a == b && (isNumber a.1 || a.1 == 5))
    else if op = 23 ∨ op = 24 then ((1, 0), a.1 == 1 && b.1 == 1) else if op = 27 ∨ op = 28 then (a, a.1 == 5 && b.1 == 2) else if op = 29 ∨ op = 30 then ((2, 0), a.1 == 5 && b.1 == 5) else ((0, 0), false)
  | [a, b, c] => if op = 26 then (b, a.1 == 1 && b == c) else ((0, 0), false)
  | _ => ((0, 0), false)
theorem len1 {α : Type} {l : List α} (h : l.length = 1) : ∃ a, l = [a] := by match l, h with | [a], _ => exact ⟨a, rfl⟩
theorem len2 {α : Type} {l : List α} (h : l.length = 2) : ∃ a b, l = [a, b] := by match l, h with | [a, b], _ => exact ⟨a, b, rfl⟩
theorem len3 {α : Type} {l : List α} (h : l.length = 3) : ∃ a b c, l = [a, b, c] := by match l, h with | [a, b, c], _ => exact ⟨a, b, c, rfl⟩

theorem resultType_ok (op : Int) (l : List TType) (hl : (l.length : Int) = arity op) : Ct Tryz.prog 47 [.raw (.int .i64 op), .tv (rSlice rType) l] (svB (resultType op l)) := by
  refine ct_intro Tryz.func47 rfl rfl Tryz.ntmps47 rfl rfl ?_
  intro w0 ok0
  refine j_seq ?_
  refine j_region ?_
  refine jg_os _ rfl (op_alloc _ z37 rfl rfl rfl) ?_
  refine jg_adr _ rfl _ rfl rfl (op_assign (.base rfl)) ?_
  refine jg_nil ?_
  refine jn_keep [0, 1, 4] [4] (.cons rfl (.cons rfl (.cons rfl .nil))) (.cons rfl .nil) ?_
  refine jn_seq (j_seq ?_)
  refine j_region ?_
  refine jg_adr _ rfl _ rfl rfl (op_build z37 rfl pl37 (.cons (rt' := (rInt .i64)) rfl ln37_0 (.raw (.base rfl) rfl) .nil)) ?_
  refine jg_os _ rfl (op_alloc _ z37 rfl rfl rfl) ?_
  refine jg_os _ rfl (op_ostore ty37 (.base rfl) rfl rfl (Lens.id _) (.tv (.base rfl))) ?_
  refine jg_nil ?_
  refine jn_keep [0, 1, 4, 6] [4, 6] (.cons rfl (.cons rfl (.cons rfl (.cons rfl .nil)))) (.cons rfl (.cons rfl .nil)) ?_
  refine jn_seq (j_seq (j_seq ?_))
  refine j_region ?_
  refine jg_adr _ rfl _ rfl rfl (op_move (.base rfl)) ?_
  refine jg_nil ?_
  refine jn_keep [0, 1, 4, 6, 8] [4, 6] (.cons rfl (.cons rfl (.cons rfl (.cons rfl (.cons rfl .nil))))) (.cons rfl (.cons rfl .nil)) ?_
  refine jn_seq (j_block (j_seq ?_))
  refine j_region ?_
  refine jg_adr _ rfl _ rfl rfl (op_eql (.base rfl) (.base rfl)) ?_
  refine jg_adr _ rfl _ rfl rfl (op_assign (.base rfl)) ?_
  refine jg_nil ?_
  refine jn_keep [0, 1, 4, 6, 8, 9] [4, 6] (.cons rfl (.cons rfl (.cons rfl (.cons rfl (.cons rfl (.cons rfl .nil)))))) (.cons rfl (.cons rfl .nil)) ?_
  refine jn_seq ?_
  refine j_cond rfl (fun h3 => ?_) (fun h3 => ?_)
  · try simp at h3
    refine j_seq ?_
    obtain ⟨x, rfl⟩ := len1 (l := l) (by have e := hl; unfold arity at e; (repeat' split at e) <;> omega)
    refine j_drawE mo (by kernel_rfl) (
      AE.cons _ _ _ rfl (gh_ga [] (ga_adr rfl rfl rfl (op_move (.base rfl))) (by kernel_rfl)) (
      AE.cons _ _ _ rfl (gh_ga [] (ga_adr rfl rfl rfl (op_index Tryz.underlying25 ty37 (.base rfl) (.base rfl) rfl (List.getElem?_eq_getElem (by first | omega | (simp; done) | (simp; omega) | (simp at hg; omega))))) (by kernel_rfl)) (
      AE.cons _ _ _ rfl (gh_ga [] (ga_adr rfl rfl rfl (op_load ty37 (.base rfl))) (by kernel_rfl)) (
      AE.cons _ _ _ rfl (gh_ga [] (ga_adr rfl rfl rfl (op_move (.base rfl))) (by kernel_rfl)) (
      AE.cons _ _ _ rfl (gh_ga [] (ga_adr rfl rfl rfl (op_index Tryz.underlying25 ty37 (.base rfl) (.base rfl) rfl (List.getElem?_eq_getElem (by first | omega | (simp; done) | (simp; omega) | (simp at hg; omega))))) (by kernel_rfl)) (
      AE.cons _ _ _ rfl (gh_ga [] (ga_adr rfl rfl rfl (op_field fld37_0 ln37_0 (.base rfl))) (by kernel_rfl)) (
      AE.cons _ _ _ rfl (gh_ga [] (ga_adr rfl rfl rfl (op_load ty3 (.base rfl))) (by kernel_rfl)) (
      AE.cons _ _ _ rfl (gh_ga [] (ga_adr rfl rfl rfl (op_call (isNumber_ok _) (.cons (.base rfl) .nil) rfl rfl)) (by kernel_rfl)) (
      AE.cons _ _ _ rfl (gh_store ty37 (.base rfl) rfl rfl (Lens.id _) (.tv (.base rfl))) (
      AE.cons _ _ _ rfl (gh_ga [] (ga_adr rfl rfl rfl (op_assign (.base rfl))) (by kernel_rfl)) (
      AE.nil))))))))))) (by kernel_rfl) ?_
    refine jn_keep [4, 5] [4] (.cons rfl (.cons rfl .nil)) (.cons rfl .nil) ?_
    refine jn_seq (j_ret (jr_blk (jr_seq ?_)))
    exact jr_fin2 Tryz.results47 (res_cell ty37 rfl rfl rfl (Lens.id rType)) (res_tmp rfl) ⟨rfl, rfl⟩ (svB_eq (by subst_vars; first | rfl | (simp [resultType]; done) | (simp [resultType, *]; done) | (unfold resultType; split <;> simp [*])))
  · try simp at h3
    refine j_seq ?_
    refine j_region ?_
    refine jg_adr _ rfl _ rfl rfl (op_eql (.base rfl) (.base rfl)) ?_
    refine jg_adr _ rfl _ rfl rfl (op_assign (.base rfl)) ?_
    refine jg_nil ?_
    refine jn_keep [0, 1, 4, 6, 8, 19] [4, 6] (.cons rfl (.cons rfl (.cons rfl (.cons rfl (.cons rfl (.cons rfl .nil)))))) (.cons rfl (.cons rfl .nil)) ?_
    refine jn_seq ?_
    refine j_cond rfl (fun h5 => ?_) (fun h5 => ?_)
    · try simp at h5
      refine j_seq ?_
      obtain ⟨x, rfl⟩ := len1 (l := l) (by have e := hl; unfold arity at e; (repeat' split at e) <;> omega)
      refine j_drawE mo (by kernel_rfl) (
        AE.cons _ _ _ rfl (gh_ga [6] (ga_adr rfl rfl rfl (op_oload ty37 (.base rfl) rfl rfl (Lens.id _))) (by kernel_rfl)) (
        AE.cons _ _ _ rfl (gh_ga [] (ga_adr rfl rfl rfl (op_move (.base rfl))) (by kernel_rfl)) (
        AE.cons _ _ _ rfl (gh_ga [] (ga_adr rfl rfl rfl (op_index Tryz.underlying25 ty37 (.base rfl) (.base rfl) rfl (List.getElem?_eq_getElem (by first | omega | (simp; done) | (simp; omega) | (simp at hg; omega))))) (by kernel_rfl)) (
        AE.cons _ _ _ rfl (gh_ga [] (ga_adr rfl rfl rfl (op_field fld37_0 ln37_0 (.base rfl))) (by kernel_rfl)) (
        AE.cons _ _ _ rfl (gh_ga [] (ga_adr rfl rfl rfl (op_load ty3 (.base rfl))) (by kernel_rfl)) (
        AE.cons _ _ _ rfl (gh_ga [] (ga_adr rfl rfl rfl (op_eql (.base rfl) (.base rfl))) (by kernel_rfl)) (
        AE.cons _ _ _ rfl (gh_store ty37 (.base rfl) rfl rfl (Lens.id _) (.tv (.base rfl))) (
        AE.cons _ _ _ rfl (gh_ga [] (ga_adr rfl rfl rfl (op_assign (.base rfl))) (by kernel_rfl)) (
        AE.nil))))))))) (by kernel_rfl) ?_
      refine jn_keep [4, 5] [4] (.cons rfl (.cons rfl .nil)) (.cons rfl .nil) ?_
      refine jn_seq (j_ret (jr_blk (jr_seq ?_)))
      exact jr_fin2 Tryz.results47 (res_cell ty37 rfl rfl rfl (Lens.id rType)) (res_tmp rfl) ⟨rfl, rfl⟩ (svB_eq (by subst_vars; first | rfl | (simp [resultType]; done) | (simp [resultType, *]; done) | (unfold resultType; split <;> simp [*])))
    · try simp at h5
      refine j_seq (j_seq ?_)
      refine j_region ?_
      refine jg_adr _ rfl _ rfl rfl (op_eql (.base rfl) (.base rfl)) ?_
      refine jg_adr _ rfl _ rfl rfl (op_assign (.base rfl)) ?_
      refine jg_nil ?_
      refine jn_keep [0, 1, 4, 6, 8, 27] [4, 6] (.cons rfl (.cons rfl (.cons rfl (.cons rfl (.cons rfl (.cons rfl .nil)))))) (.cons rfl (.cons rfl .nil)) ?_
      refine jn_seq ?_
      refine j_cond rfl (fun h7 => ?_) (fun h7 => ?_)
      · have g7 := h7; try simp at h7
        refine j_skip (jn_seq ?_)
        refine j_cond_t rfl g7 (j_seq ?_)
        obtain ⟨x, y, rfl⟩ := len2 (l := l) (by have e := hl; unfold arity at e; (repeat' split at e) <;> omega)
        refine j_drawE mo (by kernel_rfl) (
          AE.cons _ _ _ rfl (gh_ga [] (ga_adr rfl rfl rfl (op_move (.base rfl))) (by kernel_rfl)) (
          AE.cons _ _ _ rfl (gh_ga [] (ga_adr rfl rfl rfl (op_index Tryz.underlying25 ty37 (.base rfl) (.base rfl) rfl (List.getElem?_eq_getElem (by first | omega | (simp; done) | (simp; omega) | (simp at hg; omega))))) (by kernel_rfl)) (
          AE.cons _ _ _ rfl (gh_ga [] (ga_adr rfl rfl rfl (op_load ty37 (.base rfl))) (by kernel_rfl)) (
          AE.cons _ _ _ rfl (gh_ga [] (ga_adr rfl rfl rfl (op_move (.base rfl))) (by kernel_rfl)) (
          AE.cons _ _ _ rfl (gh_ga [] (ga_adr rfl rfl rfl (op_index Tryz.underlying25 ty37 (.base rfl) (.base rfl) rfl (List.getElem?_eq_getElem (by first | omega | (simp; done) | (simp; omega) | (simp at hg; omega))))) (by kernel_rfl)) (
          AE.cons _ _ _ rfl (gh_ga [] (ga_adr rfl rfl rfl (op_load ty37 (.base rfl))) (by kernel_rfl)) (
          AE.cons _ _ _ rfl (gh_ga [] (ga_adr rfl rfl rfl (op_move (.base rfl))) (by kernel_rfl)) (
          AE.cons _ _ _ rfl (gh_ga [] (ga_adr rfl rfl rfl (op_index Tryz.underlying25 ty37 (.base rfl) (.base rfl) rfl (List.getElem?_eq_getElem (by first | omega | (simp; done) | (simp; omega) | (simp at hg; omega))))) (by kernel_rfl)) (
          AE.cons _ _ _ rfl (gh_ga [] (ga_adr rfl rfl rfl (op_load ty37 (.base rfl))) (by kernel_rfl)) (
          AE.cons _ _ _ rfl (gh_ga [] (ga_adr rfl rfl rfl (op_seql eq37 rfl rfl eg37 (.tv (.base rfl)) (.tv (.base rfl)))) (by kernel_rfl)) (
          AE.cons _ _ _ rfl (gh_ga [] (ga_adr rfl rfl rfl (op_move (.base rfl))) (by kernel_rfl)) (
          AE.cons _ _ _ rfl (gh_ga [] (ga_gd _ _ _ _ rfl rfl rfl rfl rfl (fun hg => op_move (.base rfl))) (by kernel_rfl)) (
          AE.cons _ _ _ rfl (gh_ga [] (ga_gd _ _ _ _ rfl rfl rfl rfl rfl (fun hg => op_index Tryz.underlying25 ty37 (.gd rfl hg) (.base rfl) rfl (getD_some (z := ((0, 0) : TType)) (by first | omega | (simp; done) | (simp; omega) | (simp at hg; omega) | (simp at hg; simp; omega))))) (by kernel_rfl)) (
          AE.cons _ _ _ rfl (gh_ga [] (ga_gd _ _ _ _ rfl rfl rfl rfl rfl (fun hg => op_field fld37_0 ln37_0 (.gd rfl hg))) (by kernel_rfl)) (
          AE.cons _ _ _ rfl (gh_ga [] (ga_gd _ _ _ _ rfl rfl rfl rfl rfl (fun hg => op_load ty3 (.gd rfl hg))) (by kernel_rfl)) (
          AE.cons _ _ _ rfl (gh_ga [] (ga_gd _ _ _ _ rfl rfl rfl rfl rfl (fun hg => op_call (isNumber_ok _) (.cons (.gd rfl hg) .nil) rfl rfl)) (by kernel_rfl)) (
          AE.cons _ _ _ rfl (gh_ga [] (ga_adr rfl rfl rfl (op_pick_and (.base rfl) (.base rfl) rfl (by intro h; first | (rw [h]; rfl) | (rw [hg, h]; rfl) | (rw [h, hg]; rfl) | simp_all))) (by kernel_rfl)) (
          AE.cons _ _ _ rfl (gh_store ty37 (.base rfl) rfl rfl (Lens.id _) (.tv (.base rfl))) (
          AE.cons _ _ _ rfl (gh_ga [] (ga_adr rfl rfl rfl (op_assign (.base rfl))) (by kernel_rfl)) (
          AE.nil)))))))))))))))))))) (by kernel_rfl) ?_
        refine jn_keep [4, 5] [4] (.cons rfl (.cons rfl .nil)) (.cons rfl .nil) ?_
        refine jn_seq (j_ret (jr_blk (jr_seq ?_)))
        exact jr_fin2 Tryz.results47 (res_cell ty37 rfl rfl rfl (Lens.id rType)) (res_tmp rfl) ⟨rfl, rfl⟩ (svB_eq (by subst_vars; first | rfl | (simp [resultType]; done) | (simp [resultType, *]; done) | (unfold resultType; split <;> simp [*])))
      · have g7 := h7; try simp at h7
        refine j_region ?_
        refine jg_adr _ rfl _ rfl rfl (op_eql (.base rfl) (.base rfl)) ?_
        refine jg_adr _ rfl _ rfl rfl (op_assign (.base rfl)) ?_
        refine jg_nil ?_
        refine jn_keep [0, 1, 4, 6, 8, 27] [4, 6] (.cons rfl (.cons rfl (.cons rfl (.cons rfl (.cons rfl (.cons rfl .nil)))))) (.cons rfl (.cons rfl .nil)) ?_
        refine jn_seq ?_
        refine j_cond rfl (fun h8 => ?_) (fun h8 => ?_)
        · have g8 := h8; try simp at h8
          refine j_seq ?_
          obtain ⟨x, y, rfl⟩ := len2 (l := l) (by have e := hl; unfold arity at e; (repeat' split at e) <;> omega)
          refine j_drawE mo (by kernel_rfl) (
            AE.cons _ _ _ rfl (gh_ga [] (ga_adr rfl rfl rfl (op_move (.base rfl))) (by kernel_rfl)) (
            AE.cons _ _ _ rfl (gh_ga [] (ga_adr rfl rfl rfl (op_index Tryz.underlying25 ty37 (.base rfl) (.base rfl) rfl (List.getElem?_eq_getElem (by first | omega | (simp; done) | (simp; omega) | (simp at hg; omega))))) (by kernel_rfl)) (
            AE.cons _ _ _ rfl (gh_ga [] (ga_adr rfl rfl rfl (op_load ty37 (.base rfl))) (by kernel_rfl)) (
            AE.cons _ _ _ rfl (gh_ga [] (ga_adr rfl rfl rfl (op_move (.base rfl))) (by kernel_rfl)) (
            AE.cons _ _ _ rfl (gh_ga [] (ga_adr rfl rfl rfl (op_index Tryz.underlying25 ty37 (.base rfl) (.base rfl) rfl (List.getElem?_eq_getElem (by first | omega | (simp; done) | (simp; omega) | (simp at hg; omega))))) (by kernel_rfl)) (
            AE.cons _ _ _ rfl (gh_ga [] (ga_adr rfl rfl rfl (op_load ty37 (.base rfl))) (by kernel_rfl)) (
            AE.cons _ _ _ rfl (gh_ga [] (ga_adr rfl rfl rfl (op_move (.base rfl))) (by kernel_rfl)) (
            AE.cons _ _ _ rfl (gh_ga [] (ga_adr rfl rfl rfl (op_index Tryz.underlying25 ty37 (.base rfl) (.base rfl) rfl (List.getElem?_eq_getElem (by first | omega | (simp; done) | (simp; omega) | (simp at hg; omega))))) (by kernel_rfl)) (
            AE.cons _ _ _ rfl (gh_ga [] (ga_adr rfl rfl rfl (op_load ty37 (.base rfl))) (by kernel_rfl)) (
            AE.cons _ _ _ rfl (gh_ga [] (ga_adr rfl rfl rfl (op_seql eq37 rfl rfl eg37 (.tv (.base rfl)) (.tv (.base rfl)))) (by kernel_rfl)) (
            AE.cons _ _ _ rfl (gh_ga [] (ga_adr rfl rfl rfl (op_move (.base rfl))) (by kernel_rfl)) (
            AE.cons _ _ _ rfl (gh_ga [] (ga_gd _ _ _ _ rfl rfl rfl rfl rfl (fun hg => op_move (.base rfl))) (by kernel_rfl)) (
            AE.cons _ _ _ rfl (gh_ga [] (ga_gd _ _ _ _ rfl rfl rfl rfl rfl (fun hg => op_index Tryz.underlying25 ty37 (.gd rfl hg) (.base rfl) rfl (getD_some (z := ((0, 0) : TType)) (by first | omega | (simp; done) | (simp; omega) | (simp at hg; omega) | (simp at hg; simp; omega))))) (by kernel_rfl)) (
            AE.cons _ _ _ rfl (gh_ga [] (ga_gd _ _ _ _ rfl rfl rfl rfl rfl (fun hg => op_field fld37_0 ln37_0 (.gd rfl hg))) (by kernel_rfl)) (
            AE.cons _ _ _ rfl (gh_ga [] (ga_gd _ _ _ _ rfl rfl rfl rfl rfl (fun hg => op_load ty3 (.gd rfl hg))) (by kernel_rfl)) (
            AE.cons _ _ _ rfl (gh_ga [] (ga_gd _ _ _ _ rfl rfl rfl rfl rfl (fun hg => op_call (isNumber_ok _) (.cons (.gd rfl hg) .nil) rfl rfl)) (by kernel_rfl)) (
            AE.cons _ _ _ rfl (gh_ga [] (ga_adr rfl rfl rfl (op_pick_and (.base rfl) (.base rfl) rfl (by intro h; first | (rw [h]; rfl) | (rw [hg, h]; rfl) | (rw [h, hg]; rfl) | simp_all))) (by kernel_rfl)) (
            AE.cons _ _ _ rfl (gh_store ty37 (.base rfl) rfl rfl (Lens.id _) (.tv (.base rfl))) (
            AE.cons _ _ _ rfl (gh_ga [] (ga_adr rfl rfl rfl (op_assign (.base rfl))) (by kernel_rfl)) (
            AE.nil)))))))))))))))))))) (by kernel_rfl) ?_
          refine jn_keep [4, 5] [4] (.cons rfl (.cons rfl .nil)) (.cons rfl .nil) ?_
          refine jn_seq (j_ret (jr_blk (jr_seq ?_)))
          exact jr_fin2 Tryz.results47 (res_cell ty37 rfl rfl rfl (Lens.id rType)) (res_tmp rfl) ⟨rfl, rfl⟩ (svB_eq (by subst_vars; first | rfl | (simp [resultType]; done) | (simp [resultType, *]; done) | (unfold resultType; split <;> simp [*])))
        · have g8 := h8; try simp at h8
          refine j_seq (j_seq ?_)
          refine j_region ?_
          refine jg_adr _ rfl _ rfl rfl (op_eql (.base rfl) (.base rfl)) ?_
          refine jg_adr _ rfl _ rfl rfl (op_assign (.base rfl)) ?_
          refine jg_nil ?_
          refine jn_keep [0, 1, 4, 6, 8, 47] [4, 6] (.cons rfl (.cons rfl (.cons rfl (.cons rfl (.cons rfl (.cons rfl .nil)))))) (.cons rfl (.cons rfl .nil)) ?_
          refine jn_seq ?_
          refine j_cond rfl (fun h10 => ?_) (fun h10 => ?_)
          · have g10 := h10; try simp at h10
            refine j_skip (jn_seq ?_)
            refine j_cond_t rfl g10 (j_seq ?_)
            obtain ⟨x, y, rfl⟩ := len2 (l := l) (by have e := hl; unfold arity at e; (repeat' split at e) <;> omega)
            refine j_drawE mo (by kernel_rfl) (
              AE.cons _ _ _ rfl (gh_ga [] (ga_adr rfl rfl rfl (op_move (.base rfl))) (by kernel_rfl)) (
              AE.cons _ _ _ rfl (gh_ga [] (ga_adr rfl rfl rfl (op_move (.base rfl))) (by kernel_rfl)) (
              AE.cons _ _ _ rfl (gh_ga [] (ga_adr rfl rfl rfl (op_index Tryz.underlying25 ty37 (.base rfl) (.base rfl) rfl (List.getElem?_eq_getElem (by first | omega | (simp; done) | (simp; omega) | (simp at hg; omega))))) (by kernel_rfl)) (
              AE.cons _ _ _ rfl (gh_ga [] (ga_adr rfl rfl rfl (op_field fld37_0 ln37_0 (.base rfl))) (by kernel_rfl)) (
              AE.cons _ _ _ rfl (gh_ga [] (ga_adr rfl rfl rfl (op_load ty3 (.base rfl))) (by kernel_rfl)) (
              AE.cons _ _ _ rfl (gh_ga [] (ga_adr rfl rfl rfl (op_move (.base rfl))) (by kernel_rfl)) (
              AE.cons _ _ _ rfl (gh_ga [] (ga_adr rfl rfl rfl (op_index Tryz.underlying25 ty37 (.base rfl) (.base rfl) rfl (List.getElem?_eq_getElem (by first | omega | (simp; done) | (simp; omega) | (simp at hg; omega))))) (by kernel_rfl)) (
              AE.cons _ _ _ rfl (gh_ga [] (ga_adr rfl rfl rfl (op_field fld37_0 ln37_0 (.base rfl))) (by kernel_rfl)) (
              AE.cons _ _ _ rfl (gh_ga [] (ga_adr rfl rfl rfl (op_load ty3 (.base rfl))) (by kernel_rfl)) (
              AE.cons _ _ _ rfl (gh_ga [] (ga_adr rfl rfl rfl (op_call (productType_ok _ _ _) (.cons (.base rfl) (.cons (.base rfl) (.cons (.base rfl) .nil))) rfl rfl)) (by kernel_rfl)) (
              AE.cons _ _ _ rfl (gh_ga [] (ga_adr rfl rfl rfl (op_ext20 (.base rfl))) (by kernel_rfl)) (
              AE.cons _ _ _ rfl (gh_ga [] (ga_adr rfl rfl rfl (op_ext21 (.base rfl))) (by kernel_rfl)) (
              AE.cons _ _ _ rfl (gh_store ty37 (.base rfl) rfl rfl (Lens.id _) (.tv (.base rfl))) (
              AE.cons _ _ _ rfl (gh_ga [] (ga_adr rfl rfl rfl (op_assign (.base rfl))) (by kernel_rfl)) (
              AE.nil))))))))))))))) (by kernel_rfl) ?_
            refine jn_keep [4, 5] [4] (.cons rfl (.cons rfl .nil)) (.cons rfl .nil) ?_
            refine jn_seq (j_ret (jr_blk (jr_seq ?_)))
            exact jr_fin2 Tryz.results47 (res_cell ty37 rfl rfl rfl (Lens.id rType)) (res_tmp rfl) ⟨rfl, rfl⟩ (svB_eq (by subst_vars; first | rfl | (simp [resultType]; done) | (simp [resultType, *]; done) | (unfold resultType; split <;> simp [*])))
          · have g10 := h10; try simp at h10
            refine j_seq ?_
            refine j_region ?_
            refine jg_adr _ rfl _ rfl rfl (op_eql (.base rfl) (.base rfl)) ?_
            refine jg_adr _ rfl _ rfl rfl (op_assign (.base rfl)) ?_
            refine jg_nil ?_
            refine jn_keep [0, 1, 4, 6, 8, 47] [4, 6] (.cons rfl (.cons rfl (.cons rfl (.cons rfl (.cons rfl (.cons rfl .nil)))))) (.cons rfl (.cons rfl .nil)) ?_
            refine jn_seq ?_
            refine j_cond rfl (fun h11 => ?_) (fun h11 => ?_)
            · have g11 := h11; try simp at h11
              refine j_skip (jn_seq ?_)
              refine j_cond_t rfl g11 (j_seq ?_)
              obtain ⟨x, y, rfl⟩ := len2 (l := l) (by have e := hl; unfold arity at e; (repeat' split at e) <;> omega)
              refine j_drawE mo (by kernel_rfl) (
                AE.cons _ _ _ rfl (gh_ga [] (ga_adr rfl rfl rfl (op_move (.base rfl))) (by kernel_rfl)) (
                AE.cons _ _ _ rfl (gh_ga [] (ga_adr rfl rfl rfl (op_move (.base rfl))) (by kernel_rfl)) (
                AE.cons _ _ _ rfl (gh_ga [] (ga_adr rfl rfl rfl (op_index Tryz.underlying25 ty37 (.base rfl) (.base rfl) rfl (List.getElem?_eq_getElem (by first | omega | (simp; done) | (simp; omega) | (simp at hg; omega))))) (by kernel_rfl)) (
                AE.cons _ _ _ rfl (gh_ga [] (ga_adr rfl rfl rfl (op_field fld37_0 ln37_0 (.base rfl))) (by kernel_rfl)) (
                AE.cons _ _ _ rfl (gh_ga [] (ga_adr rfl rfl rfl (op_load ty3 (.base rfl))) (by kernel_rfl)) (
                AE.cons _ _ _ rfl (gh_ga [] (ga_adr rfl rfl rfl (op_move (.base rfl))) (by kernel_rfl)) (
                AE.cons _ _ _ rfl (gh_ga [] (ga_adr rfl rfl rfl (op_index Tryz.underlying25 ty37 (.base rfl) (.base rfl) rfl (List.getElem?_eq_getElem (by first | omega | (simp; done) | (simp; omega) | (simp at hg; omega))))) (by kernel_rfl)) (
                AE.cons _ _ _ rfl (gh_ga [] (ga_adr rfl rfl rfl (op_field fld37_0 ln37_0 (.base rfl))) (by kernel_rfl)) (
                AE.cons _ _ _ rfl (gh_ga [] (ga_adr rfl rfl rfl (op_load ty3 (.base rfl))) (by kernel_rfl)) (
                AE.cons _ _ _ rfl (gh_ga [] (ga_adr rfl rfl rfl (op_call (productType_ok _ _ _) (.cons (.base rfl) (.cons (.base rfl) (.cons (.base rfl) .nil))) rfl rfl)) (by kernel_rfl)) (
                AE.cons _ _ _ rfl (gh_ga [] (ga_adr rfl rfl rfl (op_ext20 (.base rfl))) (by kernel_rfl)) (
                AE.cons _ _ _ rfl (gh_ga [] (ga_adr rfl rfl rfl (op_ext21 (.base rfl))) (by kernel_rfl)) (
                AE.cons _ _ _ rfl (gh_store ty37 (.base rfl) rfl rfl (Lens.id _) (.tv (.base rfl))) (
                AE.cons _ _ _ rfl (gh_ga [] (ga_adr rfl rfl rfl (op_assign (.base rfl))) (by kernel_rfl)) (
                AE.nil))))))))))))))) (by kernel_rfl) ?_
              refine jn_keep [4, 5] [4] (.cons rfl (.cons rfl .nil)) (.cons rfl .nil) ?_
              refine jn_seq (j_ret (jr_blk (jr_seq ?_)))
              exact jr_fin2 Tryz.results47 (res_cell ty37 rfl rfl rfl (Lens.id rType)) (res_tmp rfl) ⟨rfl, rfl⟩ (svB_eq (by subst_vars; first | rfl | (simp [resultType]; done) | (simp [resultType, *]; done) | (unfold resultType; split <;> simp [*])))
            · have g11 := h11; try simp at h11
              refine j_region ?_
              refine jg_adr _ rfl _ rfl rfl (op_eql (.base rfl) (.base rfl)) ?_
              refine jg_adr _ rfl _ rfl rfl (op_assign (.base rfl)) ?_
              refine jg_nil ?_
              refine jn_keep [0, 1, 4, 6, 8, 47] [4, 6] (.cons rfl (.cons rfl (.cons rfl (.cons rfl (.cons rfl (.cons rfl .nil)))))) (.cons rfl (.cons rfl .nil)) ?_
              refine jn_seq ?_
              refine j_cond rfl (fun h12 => ?_) (fun h12 => ?_)
              · have g12 := h12; try simp at h12
                refine j_seq ?_
                obtain ⟨x, y, rfl⟩ := len2 (l := l) (by have e := hl; unfold arity at e; (repeat' split at e) <;> omega)
                refine j_drawE mo (by kernel_rfl) (
                  AE.cons _ _ _ rfl (gh_ga [] (ga_adr rfl rfl rfl (op_move (.base rfl))) (by kernel_rfl)) (
                  AE.cons _ _ _ rfl (gh_ga [] (ga_adr rfl rfl rfl (op_move (.base rfl))) (by kernel_rfl)) (
                  AE.cons _ _ _ rfl (gh_ga [] (ga_adr rfl rfl rfl (op_index Tryz.underlying25 ty37 (.base rfl) (.base rfl) rfl (List.getElem?_eq_getElem (by first | omega | (simp; done) | (simp; omega) | (simp at hg; omega))))) (by kernel_rfl)) (
                  AE.cons _ _ _ rfl (gh_ga [] (ga_adr rfl rfl rfl (op_field fld37_0 ln37_0 (.base rfl))) (by kernel_rfl)) (
                  AE.cons _ _ _ rfl (gh_ga [] (ga_adr rfl rfl rfl (op_load ty3 (.base rfl))) (by kernel_rfl)) (
                  AE.cons _ _ _ rfl (gh_ga [] (ga_adr rfl rfl rfl (op_move (.base rfl))) (by kernel_rfl)) (
                  AE.cons _ _ _ rfl (gh_ga [] (ga_adr rfl rfl rfl (op_index Tryz.underlying25 ty37 (.base rfl) (.base rfl) rfl (List.getElem?_eq_getElem (by first | omega | (simp; done) | (simp; omega) | (simp at hg; omega))))) (by kernel_rfl)) (
                  AE.cons _ _ _ rfl (gh_ga [] (ga_adr rfl rfl rfl (op_field fld37_0 ln37_0 (.base rfl))) (by kernel_rfl)) (
                  AE.cons _ _ _ rfl (gh_ga [] (ga_adr rfl rfl rfl (op_load ty3 (.base rfl))) (by kernel_rfl)) (
                  AE.cons _ _ _ rfl (gh_ga [] (ga_adr rfl rfl rfl (op_call (productType_ok _ _ _) (.cons (.base rfl) (.cons (.base rfl) (.cons (.base rfl) .nil))) rfl rfl)) (by kernel_rfl)) (
                  AE.cons _ _ _ rfl (gh_ga [] (ga_adr rfl rfl rfl (op_ext20 (.base rfl))) (by kernel_rfl)) (
                  AE.cons _ _ _ rfl (gh_ga [] (ga_adr rfl rfl rfl (op_ext21 (.base rfl))) (by kernel_rfl)) (
                  AE.cons _ _ _ rfl (gh_store ty37 (.base rfl) rfl rfl (Lens.id _) (.tv (.base rfl))) (
                  AE.cons _ _ _ rfl (gh_ga [] (ga_adr rfl rfl rfl (op_assign (.base rfl))) (by kernel_rfl)) (
                  AE.nil))))))))))))))) (by kernel_rfl) ?_
                refine jn_keep [4, 5] [4] (.cons rfl (.cons rfl .nil)) (.cons rfl .nil) ?_
                refine jn_seq (j_ret (jr_blk (jr_seq ?_)))
                exact jr_fin2 Tryz.results47 (res_cell ty37 rfl rfl rfl (Lens.id rType)) (res_tmp rfl) ⟨rfl, rfl⟩ (svB_eq (by subst_vars; first | rfl | (simp [resultType]; done) | (simp [resultType, *]; done) | (unfold resultType; split <;> simp [*])))
              · have g12 := h12; try simp at h12
                refine j_seq ?_
                refine j_region ?_
                refine jg_adr _ rfl _ rfl rfl (op_eql (.base rfl) (.base rfl)) ?_
                refine jg_adr _ rfl _ rfl rfl (op_assign (.base rfl)) ?_
                refine jg_nil ?_
                refine jn_keep [1, 4, 6, 8, 63] [4, 6] (.cons rfl (.cons rfl (.cons rfl (.cons rfl (.cons rfl .nil))))) (.cons rfl (.cons rfl .nil)) ?_
                refine jn_seq ?_
                refine j_cond rfl (fun h14 => ?_) (fun h14 => ?_)
                · try simp at h14
                  refine j_seq ?_
                  obtain ⟨x, y, rfl⟩ := len2 (l := l) (by have e := hl; unfold arity at e; (repeat' split at e) <;> omega)
                  refine j_drawE mo (by kernel_rfl) (
                    AE.cons _ _ _ rfl (gh_ga [] (ga_adr rfl rfl rfl (op_move (.base rfl))) (by kernel_rfl)) (
                    AE.cons _ _ _ rfl (gh_ga [] (ga_adr rfl rfl rfl (op_index Tryz.underlying25 ty37 (.base rfl) (.base rfl) rfl (List.getElem?_eq_getElem (by first | omega | (simp; done) | (simp; omega) | (simp at hg; omega))))) (by kernel_rfl)) (
                    AE.cons _ _ _ rfl (gh_ga [] (ga_adr rfl rfl rfl (op_load ty37 (.base rfl))) (by kernel_rfl)) (
                    AE.cons _ _ _ rfl (gh_ga [] (ga_adr rfl rfl rfl (op_move (.base rfl))) (by kernel_rfl)) (
                    AE.cons _ _ _ rfl (gh_ga [] (ga_adr rfl rfl rfl (op_index Tryz.underlying25 ty37 (.base rfl) (.base rfl) rfl (List.getElem?_eq_getElem (by first | omega | (simp; done) | (simp; omega) | (simp at hg; omega))))) (by kernel_rfl)) (
                    AE.cons _ _ _ rfl (gh_ga [] (ga_adr rfl rfl rfl (op_field fld37_0 ln37_0 (.base rfl))) (by kernel_rfl)) (
                    AE.cons _ _ _ rfl (gh_ga [] (ga_adr rfl rfl rfl (op_load ty3 (.base rfl))) (by kernel_rfl)) (
                    AE.cons _ _ _ rfl (gh_ga [] (ga_adr rfl rfl rfl (op_eql (.base rfl) (.base rfl))) (by kernel_rfl)) (
                    AE.cons _ _ _ rfl (gh_ga [] (ga_adr rfl rfl rfl (op_move (.base rfl))) (by kernel_rfl)) (
                    AE.cons _ _ _ rfl (gh_ga [] (ga_gd _ _ _ _ rfl rfl rfl rfl rfl (fun hg => op_move (.base rfl))) (by kernel_rfl)) (
                    AE.cons _ _ _ rfl (gh_ga [] (ga_gd _ _ _ _ rfl rfl rfl rfl rfl (fun hg => op_index Tryz.underlying25 ty37 (.gd rfl hg) (.base rfl) rfl (getD_some (z := ((0, 0) : TType)) (by first | omega | (simp; done) | (simp; omega) | (simp at hg; omega) | (simp at hg; simp; omega))))) (by kernel_rfl)) (
                    AE.cons _ _ _ rfl (gh_ga [] (ga_gd _ _ _ _ rfl rfl rfl rfl rfl (fun hg => op_field fld37_0 ln37_0 (.gd rfl hg))) (by kernel_rfl)) (
                    AE.cons _ _ _ rfl (gh_ga [] (ga_gd _ _ _ _ rfl rfl rfl rfl rfl (fun hg => op_load ty3 (.gd rfl hg))) (by kernel_rfl)) (
                    AE.cons _ _ _ rfl (gh_ga [] (ga_gd _ _ _ _ rfl rfl rfl rfl rfl (fun hg => op_eql (.gd rfl hg) (.base rfl))) (by kernel_rfl)) (
                    AE.cons _ _ _ rfl (gh_ga [] (ga_adr rfl rfl rfl (op_pick_and (.base rfl) (.base rfl) rfl (by intro h; first | (rw [h]; rfl) | (rw [hg, h]; rfl) | (rw [h, hg]; rfl) | simp_all))) (by kernel_rfl)) (
                    AE.cons _ _ _ rfl (gh_store ty37 (.base rfl) rfl rfl (Lens.id _) (.tv (.base rfl))) (
                    AE.cons _ _ _ rfl (gh_ga [] (ga_adr rfl rfl rfl (op_assign (.base rfl))) (by kernel_rfl)) (
                    AE.nil)))))))))))))))))) (by kernel_rfl) ?_
                  refine jn_keep [4, 5] [4] (.cons rfl (.cons rfl .nil)) (.cons rfl .nil) ?_
                  refine jn_seq (j_ret (jr_blk (jr_seq ?_)))
                  exact jr_fin2 Tryz.results47 (res_cell ty37 rfl rfl rfl (Lens.id rType)) (res_tmp rfl) ⟨rfl, rfl⟩ (svB_eq (by subst_vars; first | rfl | (simp [resultType]; done) | (simp [resultType, *]; done) | (unfold resultType; split <;> simp [*])))
                · try simp at h14
                  refine j_seq (j_seq ?_)
                  refine j_region ?_
                  refine jg_adr _ rfl _ rfl rfl (op_eql (.base rfl) (.base rfl)) ?_
                  refine jg_adr _ rfl _ rfl rfl (op_assign (.base rfl)) ?_
                  refine jg_nil ?_
                  refine jn_keep [1, 4, 6, 8, 80] [4, 6] (.cons rfl (.cons rfl (.cons rfl (.cons rfl (.cons rfl .nil))))) (.cons rfl (.cons rfl .nil)) ?_
                  refine jn_seq ?_
                  refine j_cond rfl (fun h16 => ?_) (fun h16 => ?_)
                  · have g16 := h16; try simp at h16
                    refine j_skip (jn_seq ?_)
                    refine j_cond_t rfl g16 (j_seq ?_)
                    obtain ⟨x, y, rfl⟩ := len2 (l := l) (by have e := hl; unfold arity at e; (repeat' split at e) <;> omega)
                    refine j_drawE mo (by kernel_rfl) (
                      AE.cons _ _ _ rfl (gh_ga [] (ga_adr rfl rfl rfl (op_move (.base rfl))) (by kernel_rfl)) (
                      AE.cons _ _ _ rfl (gh_ga [] (ga_adr rfl rfl rfl (op_index Tryz.underlying25 ty37 (.base rfl) (.base rfl) rfl (List.getElem?_eq_getElem (by first | omega | (simp; done) | (simp; omega) | (simp at hg; omega))))) (by kernel_rfl)) (
                      AE.cons _ _ _ rfl (gh_ga [] (ga_adr rfl rfl rfl (op_load ty37 (.base rfl))) (by kernel_rfl)) (
                      AE.cons _ _ _ rfl (gh_ga [] (ga_adr rfl rfl rfl (op_move (.base rfl))) (by kernel_rfl)) (
                      AE.cons _ _ _ rfl (gh_ga [] (ga_adr rfl rfl rfl (op_index Tryz.underlying25 ty37 (.base rfl) (.base rfl) rfl (List.getElem?_eq_getElem (by first | omega | (simp; done) | (simp; omega) | (simp at hg; omega))))) (by kernel_rfl)) (
                      AE.cons _ _ _ rfl (gh_ga [] (ga_adr rfl rfl rfl (op_load ty37 (.base rfl))) (by kernel_rfl)) (
                      AE.cons _ _ _ rfl (gh_ga [] (ga_adr rfl rfl rfl (op_move (.base rfl))) (by kernel_rfl)) (
                      AE.cons _ _ _ rfl (gh_ga [] (ga_adr rfl rfl rfl (op_index Tryz.underlying25 ty37 (.base rfl) (.base rfl) rfl (List.getElem?_eq_getElem (by first | omega | (simp; done) | (simp; omega) | (simp at hg; omega))))) (by kernel_rfl)) (
                      AE.cons _ _ _ rfl (gh_ga [] (ga_adr rfl rfl rfl (op_load ty37 (.base rfl))) (by kernel_rfl)) (
                      AE.cons _ _ _ rfl (gh_ga [] (ga_adr rfl rfl rfl (op_seql eq37 rfl rfl eg37 (.tv (.base rfl)) (.tv (.base rfl)))) (by kernel_rfl)) (
                      AE.cons _ _ _ rfl (gh_ga [] (ga_adr rfl rfl rfl (op_move (.base rfl))) (by kernel_rfl)) (
                      AE.cons _ _ _ rfl (gh_ga [] (ga_gd _ _ _ _ rfl rfl rfl rfl rfl (fun hg => op_move (.base rfl))) (by kernel_rfl)) (
                      AE.cons _ _ _ rfl (gh_ga [] (ga_gd _ _ _ _ rfl rfl rfl rfl rfl (fun hg => op_index Tryz.underlying25 ty37 (.gd rfl hg) (.base rfl) rfl (getD_some (z := ((0, 0) : TType)) (by first | omega | (simp; done) | (simp; omega) | (simp at hg; omega) | (simp at hg; simp; omega))))) (by kernel_rfl)) (
                      AE.cons _ _ _ rfl (gh_ga [] (ga_gd _ _ _ _ rfl rfl rfl rfl rfl (fun hg => op_field fld37_0 ln37_0 (.gd rfl hg))) (by kernel_rfl)) (
                      AE.cons _ _ _ rfl (gh_ga [] (ga_gd _ _ _ _ rfl rfl rfl rfl rfl (fun hg => op_load ty3 (.gd rfl hg))) (by kernel_rfl)) (
                      AE.cons _ _ _ rfl (gh_ga [] (ga_gd _ _ _ _ rfl rfl rfl rfl rfl (fun hg => op_call (isNumber_ok _) (.cons (.gd rfl hg) .nil) rfl rfl)) (by kernel_rfl)) (
                      AE.cons _ _ _ rfl (gh_ga [] (ga_gd _ _ _ _ rfl rfl rfl rfl rfl (fun hg => op_move (.gd rfl hg))) (by kernel_rfl)) (
                      AE.cons _ _ _ rfl (gh_ga [] (ga_gd2 _ _ _ _ _ rfl rfl rfl rfl rfl (fun hg => op_move (.base rfl))) (by kernel_rfl)) (
                      AE.cons _ _ _ rfl (gh_ga [] (ga_gd2 _ _ _ _ _ rfl rfl rfl rfl rfl (fun hg => op_index Tryz.underlying25 ty37 (.gd rfl hg) (.base rfl) rfl (getD_some (z := ((0, 0) : TType)) (by first | omega | (simp; done) | (simp; omega) | (simp at hg; omega) | (simp at hg; simp; omega))))) (by kernel_rfl)) (
                      AE.cons _ _ _ rfl (gh_ga [] (ga_gd2 _ _ _ _ _ rfl rfl rfl rfl rfl (fun hg => op_field fld37_0 ln37_0 (.gd rfl hg))) (by kernel_rfl)) (
                      AE.cons _ _ _ rfl (gh_ga [] (ga_gd2 _ _ _ _ _ rfl rfl rfl rfl rfl (fun hg => op_load ty3 (.gd rfl hg))) (by kernel_rfl)) (
                      AE.cons _ _ _ rfl (gh_ga [] (ga_gd2 _ _ _ _ _ rfl rfl rfl rfl rfl (fun hg => op_eql (.gd rfl hg) (.base rfl))) (by kernel_rfl)) (
                      AE.cons _ _ _ rfl (gh_ga [] (ga_gd _ _ _ _ rfl rfl rfl rfl rfl (fun hg => op_pick_or (.gd rfl hg) (.base rfl) rfl (by intro h; first | (rw [h]; rfl) | (rw [hg, h]; rfl) | (rw [h, hg]; rfl) | simp_all))) (by kernel_rfl)) (
                      AE.cons _ _ _ rfl (gh_ga [] (ga_adr rfl rfl rfl (op_pick_and (.base rfl) (.base rfl) rfl (by intro h; first | (rw [h]; rfl) | (rw [hg, h]; rfl) | (rw [h, hg]; rfl) | simp_all))) (by kernel_rfl)) (
                      AE.cons _ _ _ rfl (gh_store ty37 (.base rfl) rfl rfl (Lens.id _) (.tv (.base rfl))) (
                      AE.cons _ _ _ rfl (gh_ga [] (ga_adr rfl rfl rfl (op_assign (.base rfl))) (by kernel_rfl)) (
                      AE.nil))))))))))))))))))))))))))) (by kernel_rfl) ?_
                    refine jn_keep [4, 5] [4] (.cons rfl (.cons rfl .nil)) (.cons rfl .nil) ?_
                    refine jn_seq (j_ret (jr_blk (jr_seq ?_)))
                    exact jr_fin2 Tryz.results47 (res_cell ty37 rfl rfl rfl (Lens.id rType)) (res_tmp rfl) ⟨rfl, rfl⟩ (svB_eq (by subst_vars; first | rfl | (simp [resultType]; done) | (simp [resultType, *]; done) | (unfold resultType; split <;> simp [*])))
                  · have g16 := h16; try simp at h16
                    refine j_region ?_
                    refine jg_adr _ rfl _ rfl rfl (op_eql (.base rfl) (.base rfl)) ?_
                    refine jg_adr _ rfl _ rfl rfl (op_assign (.base rfl)) ?_
                    refine jg_nil ?_
                    refine jn_keep [1, 4, 6, 8, 80] [4, 6] (.cons rfl (.cons rfl (.cons rfl (.cons rfl (.cons rfl .nil))))) (.cons rfl (.cons rfl .nil)) ?_
                    refine jn_seq ?_
                    refine j_cond rfl (fun h17 => ?_) (fun h17 => ?_)
                    · have g17 := h17; try simp at h17
                      refine j_seq ?_
                      obtain ⟨x, y, rfl⟩ := len2 (l := l) (by have e := hl; unfold arity at e; (repeat' split at e) <;> omega)
                      refine j_drawE mo (by kernel_rfl) (
                        AE.cons _ _ _ rfl (gh_ga [] (ga_adr rfl rfl rfl (op_move (.base rfl))) (by kernel_rfl)) (
                        AE.cons _ _ _ rfl (gh_ga [] (ga_adr rfl rfl rfl (op_index Tryz.underlying25 ty37 (.base rfl) (.base rfl) rfl (List.getElem?_eq_getElem (by first | omega | (simp; done) | (simp; omega) | (simp at hg; omega))))) (by kernel_rfl)) (
                        AE.cons _ _ _ rfl (gh_ga [] (ga_adr rfl rfl rfl (op_load ty37 (.base rfl))) (by kernel_rfl)) (
                        AE.cons _ _ _ rfl (gh_ga [] (ga_adr rfl rfl rfl (op_move (.base rfl))) (by kernel_rfl)) (
                        AE.cons _ _ _ rfl (gh_ga [] (ga_adr rfl rfl rfl (op_index Tryz.underlying25 ty37 (.base rfl) (.base rfl) rfl (List.getElem?_eq_getElem (by first | omega | (simp; done) | (simp; omega) | (simp at hg; omega))))) (by kernel_rfl)) (
                        AE.cons _ _ _ rfl (gh_ga [] (ga_adr rfl rfl rfl (op_load ty37 (.base rfl))) (by kernel_rfl)) (
                        AE.cons _ _ _ rfl (gh_ga [] (ga_adr rfl rfl rfl (op_move (.base rfl))) (by kernel_rfl)) (
                        AE.cons _ _ _ rfl (gh_ga [] (ga_adr rfl rfl rfl (op_index Tryz.underlying25 ty37 (.base rfl) (.base rfl) rfl (List.getElem?_eq_getElem (by first | omega | (simp; done) | (simp; omega) | (simp at hg; omega))))) (by kernel_rfl)) (
                        AE.cons _ _ _ rfl (gh_ga [] (ga_adr rfl rfl rfl (op_load ty37 (.base rfl))) (by kernel_rfl)) (
                        AE.cons _ _ _ rfl (gh_ga [] (ga_adr rfl rfl rfl (op_seql eq37 rfl rfl eg37 (.tv (.base rfl)) (.tv (.base rfl)))) (by kernel_rfl)) (
                        AE.cons _ _ _ rfl (gh_ga [] (ga_adr rfl rfl rfl (op_move (.base rfl))) (by kernel_rfl)) (
                        AE.cons _ _ _ rfl (gh_ga [] (ga_gd _ _ _ _ rfl rfl rfl rfl rfl (fun hg => op_move (.base rfl))) (by kernel_rfl)) (
                        AE.cons _ _ _ rfl (gh_ga [] (ga_gd _ _ _ _ rfl rfl rfl rfl rfl (fun hg => op_index Tryz.underlying25 ty37 (.gd rfl hg) (.base rfl) rfl (getD_some (z := ((0, 0) : TType)) (by first | omega | (simp; done) | (simp; omega) | (simp at hg; omega) | (simp at hg; simp; omega))))) (by kernel_rfl)) (
                        AE.cons _ _ _ rfl (gh_ga [] (ga_gd _ _ _ _ rfl rfl rfl rfl rfl (fun hg => op_field fld37_0 ln37_0 (.gd rfl hg))) (by kernel_rfl)) (
                        AE.cons _ _ _ rfl (gh_ga [] (ga_gd _ _ _ _ rfl rfl rfl rfl rfl (fun hg => op_load ty3 (.gd rfl hg))) (by kernel_rfl)) (
                        AE.cons _ _ _ rfl (gh_ga [] (ga_gd _ _ _ _ rfl rfl rfl rfl rfl (fun hg => op_call (isNumber_ok _) (.cons (.gd rfl hg) .nil) rfl rfl)) (by kernel_rfl)) (
                        AE.cons _ _ _ rfl (gh_ga [] (ga_gd _ _ _ _ rfl rfl rfl rfl rfl (fun hg => op_move (.gd rfl hg))) (by kernel_rfl)) (
                        AE.cons _ _ _ rfl (gh_ga [] (ga_gd2 _ _ _ _ _ rfl rfl rfl rfl rfl (fun hg => op_move (.base rfl))) (by kernel_rfl)) (
                        AE.cons _ _ _ rfl (gh_ga [] (ga_gd2 _ _ _ _ _ rfl rfl rfl rfl rfl (fun hg => op_index Tryz.underlying25 ty37 (.gd rfl hg) (.base rfl) rfl (getD_some (z := ((0, 0) : TType)) (by first | omega | (simp; done) | (simp; omega) | (simp at hg; omega) | (simp at hg; simp; omega))))) (by kernel_rfl)) (
                        AE.cons _ _ _ rfl (gh_ga [] (ga_gd2 _ _ _ _ _ rfl rfl rfl rfl rfl (fun hg => op_field fld37_0 ln37_0 (.gd rfl hg))) (by kernel_rfl)) (
                        AE.cons _ _ _ rfl (gh_ga [] (ga_gd2 _ _ _ _ _ rfl rfl rfl rfl rfl (fun hg => op_load ty3 (.gd rfl hg))) (by kernel_rfl)) (
                        AE.cons _ _ _ rfl (gh_ga [] (ga_gd2 _ _ _ _ _ rfl rfl rfl rfl rfl (fun hg => op_eql (.gd rfl hg) (.base rfl))) (by kernel_rfl)) (
                        AE.cons _ _ _ rfl (gh_ga [] (ga_gd _ _ _ _ rfl rfl rfl rfl rfl (fun hg => op_pick_or (.gd rfl hg) (.base rfl) rfl (by intro h; first | (rw [h]; rfl) | (rw [hg, h]; rfl) | (rw [h, hg]; rfl) | simp_all))) (by kernel_rfl)) (
                        AE.cons _ _ _ rfl (gh_ga [] (ga_adr rfl rfl rfl (op_pick_and (.base rfl) (.base rfl) rfl (by intro h; first | (rw [h]; rfl) | (rw [hg, h]; rfl) | (rw [h, hg]; rfl) | simp_all))) (by kernel_rfl)) (
                        AE.cons _ _ _ rfl (gh_store ty37 (.base rfl) rfl rfl (Lens.id _) (.tv (.base rfl))) (
                        AE.cons _ _ _ rfl (gh_ga [] (ga_adr rfl rfl rfl (op_assign (.base rfl))) (by kernel_rfl)) (
                        AE.nil))))))))))))))))))))))))))) (by kernel_rfl) ?_
                      refine jn_keep [4, 5] [4] (.cons rfl (.cons rfl .nil)) (.cons rfl .nil) ?_
                      refine jn_seq (j_ret (jr_blk (jr_seq ?_)))
                      exact jr_fin2 Tryz.results47 (res_cell ty37 rfl rfl rfl (Lens.id rType)) (res_tmp rfl) ⟨rfl, rfl⟩ (svB_eq (by subst_vars; first | rfl | (simp [resultType]; done) | (simp [resultType, *]; done) | (unfold resultType; split <;> simp [*])))
                    · have g17 := h17; try simp at h17
                      refine j_seq (j_seq ?_)
                      refine j_region ?_
                      refine jg_adr _ rfl _ rfl rfl (op_eql (.base rfl) (.base rfl)) ?_
                      refine jg_adr _ rfl _ rfl rfl (op_assign (.base rfl)) ?_
                      refine jg_nil ?_
                      refine jn_keep [1, 4, 6, 8, 107] [4, 6] (.cons rfl (.cons rfl (.cons rfl (.cons rfl (.cons rfl .nil))))) (.cons rfl (.cons rfl .nil)) ?_
                      refine jn_seq ?_
                      refine j_cond rfl (fun h19 => ?_) (fun h19 => ?_)
                      · have g19 := h19; try simp at h19
                        refine j_skip (jn_seq ?_)
                        refine j_cond_t rfl g19 (j_seq ?_)
                        obtain ⟨x, y, rfl⟩ := len2 (l := l) (by have e := hl; unfold arity at e; (repeat' split at e) <;> omega)
                        refine j_drawE mo (by kernel_rfl) (
                          AE.cons _ _ _ rfl (gh_ga [6] (ga_adr rfl rfl rfl (op_oload ty37 (.base rfl) rfl rfl (Lens.id _))) (by kernel_rfl)) (
                          AE.cons _ _ _ rfl (gh_ga [] (ga_adr rfl rfl rfl (op_move (.base rfl))) (by kernel_rfl)) (
                          AE.cons _ _ _ rfl (gh_ga [] (ga_adr rfl rfl rfl (op_index Tryz.underlying25 ty37 (.base rfl) (.base rfl) rfl (List.getElem?_eq_getElem (by first | omega | (simp; done) | (simp; omega) | (simp at hg; omega))))) (by kernel_rfl)) (
                          AE.cons _ _ _ rfl (gh_ga [] (ga_adr rfl rfl rfl (op_load ty37 (.base rfl))) (by kernel_rfl)) (
                          AE.cons _ _ _ rfl (gh_ga [] (ga_adr rfl rfl rfl (op_move (.base rfl))) (by kernel_rfl)) (
                          AE.cons _ _ _ rfl (gh_ga [] (ga_adr rfl rfl rfl (op_index Tryz.underlying25 ty37 (.base rfl) (.base rfl) rfl (List.getElem?_eq_getElem (by first | omega | (simp; done) | (simp; omega) | (simp at hg; omega))))) (by kernel_rfl)) (
                          AE.cons _ _ _ rfl (gh_ga [] (ga_adr rfl rfl rfl (op_load ty37 (.base rfl))) (by kernel_rfl)) (
                          AE.cons _ _ _ rfl (gh_ga [] (ga_adr rfl rfl rfl (op_seql eq37 rfl rfl eg37 (.tv (.base rfl)) (.tv (.base rfl)))) (by kernel_rfl)) (
                          AE.cons _ _ _ rfl (gh_store ty37 (.base rfl) rfl rfl (Lens.id _) (.tv (.base rfl))) (
                          AE.cons _ _ _ rfl (gh_ga [] (ga_adr rfl rfl rfl (op_assign (.base rfl))) (by kernel_rfl)) (
                          AE.nil))))))))))) (by kernel_rfl) ?_
                        refine jn_keep [4, 5] [4] (.cons rfl (.cons rfl .nil)) (.cons rfl .nil) ?_
                        refine jn_seq (j_ret (jr_blk (jr_seq ?_)))
                        exact jr_fin2 Tryz.results47 (res_cell ty37 rfl rfl rfl (Lens.id rType)) (res_tmp rfl) ⟨rfl, rfl⟩ (svB_eq (by subst_vars; first | rfl | (simp [resultType]; done) | (simp [resultType, *]; done) | (unfold resultType; split <;> simp [*])))
                      · have g19 := h19; try simp at h19
                        refine j_region ?_
                        refine jg_adr _ rfl _ rfl rfl (op_eql (.base rfl) (.base rfl)) ?_
                        refine jg_adr _ rfl _ rfl rfl (op_assign (.base rfl)) ?_
                        refine jg_nil ?_
                        refine jn_keep [1, 4, 6, 8, 107] [4, 6] (.cons rfl (.cons rfl (.cons rfl (.cons rfl (.cons rfl .nil))))) (.cons rfl (.cons rfl .nil)) ?_
                        refine jn_seq ?_
                        refine j_cond rfl (fun h20 => ?_) (fun h20 => ?_)
                        · have g20 := h20; try simp at h20
                          refine j_seq ?_
                          obtain ⟨x, y, rfl⟩ := len2 (l := l) (by have e := hl; unfold arity at e; (repeat' split at e) <;> omega)
                          refine j_drawE mo (by kernel_rfl) (
                            AE.cons _ _ _ rfl (gh_ga [6] (ga_adr rfl rfl rfl (op_oload ty37 (.base rfl) rfl rfl (Lens.id _))) (by kernel_rfl)) (
                            AE.cons _ _ _ rfl (gh_ga [] (ga_adr rfl rfl rfl (op_move (.base rfl))) (by kernel_rfl)) (
                            AE.cons _ _ _ rfl (gh_ga [] (ga_adr rfl rfl rfl (op_index Tryz.underlying25 ty37 (.base rfl) (.base rfl) rfl (List.getElem?_eq_getElem (by first | omega | (simp; done) | (simp; omega) | (simp at hg; omega))))) (by kernel_rfl)) (
                            AE.cons _ _ _ rfl (gh_ga [] (ga_adr rfl rfl rfl (op_load ty37 (.base rfl))) (by kernel_rfl)) (
                            AE.cons _ _ _ rfl (gh_ga [] (ga_adr rfl rfl rfl (op_move (.base rfl))) (by kernel_rfl)) (
                            AE.cons _ _ _ rfl (gh_ga [] (ga_adr rfl rfl rfl (op_index Tryz.underlying25 ty37 (.base rfl) (.base rfl) rfl (List.getElem?_eq_getElem (by first | omega | (simp; done) | (simp; omega) | (simp at hg; omega))))) (by kernel_rfl)) (
                            AE.cons _ _ _ rfl (gh_ga [] (ga_adr rfl rfl rfl (op_load ty37 (.base rfl))) (by kernel_rfl)) (
                            AE.cons _ _ _ rfl (gh_ga [] (ga_adr rfl rfl rfl (op_seql eq37 rfl rfl eg37 (.tv (.base rfl)) (.tv (.base rfl)))) (by kernel_rfl)) (
                            AE.cons _ _ _ rfl (gh_store ty37 (.base rfl) rfl rfl (Lens.id _) (.tv (.base rfl))) (
                            AE.cons _ _ _ rfl (gh_ga [] (ga_adr rfl rfl rfl (op_assign (.base rfl))) (by kernel_rfl)) (
                            AE.nil))))))))))) (by kernel_rfl) ?_
                          refine jn_keep [4, 5] [4] (.cons rfl (.cons rfl .nil)) (.cons rfl .nil) ?_
                          refine jn_seq (j_ret (jr_blk (jr_seq ?_)))
                          exact jr_fin2 Tryz.results47 (res_cell ty37 rfl rfl rfl (Lens.id rType)) (res_tmp rfl) ⟨rfl, rfl⟩ (svB_eq (by subst_vars; first | rfl | (simp [resultType]; done) | (simp [resultType, *]; done) | (unfold resultType; split <;> simp [*])))
                        · have g20 := h20; try simp at h20
                          refine j_seq (j_seq ?_)
                          refine j_region ?_
                          refine jg_adr _ rfl _ rfl rfl (op_eql (.base rfl) (.base rfl)) ?_
                          refine jg_adr _ rfl _ rfl rfl (op_assign (.base rfl)) ?_
                          refine jg_nil ?_
                          refine jn_keep [1, 4, 6, 8, 118] [4, 6] (.cons rfl (.cons rfl (.cons rfl (.cons rfl (.cons rfl .nil))))) (.cons rfl (.cons rfl .nil)) ?_
                          refine jn_seq ?_
                          refine j_cond rfl (fun h22 => ?_) (fun h22 => ?_)
                          · have g22 := h22; try simp at h22
                            refine j_skip (jn_seq ?_)
                            refine j_cond_t rfl g22 (j_seq ?_)
                            obtain ⟨x, y, rfl⟩ := len2 (l := l) (by have e := hl; unfold arity at e; (repeat' split at e) <;> omega)
                            refine j_drawE mo (by kernel_rfl) (
                              AE.cons _ _ _ rfl (gh_ga [6] (ga_adr rfl rfl rfl (op_oload ty37 (.base rfl) rfl rfl (Lens.id _))) (by kernel_rfl)) (
                              AE.cons _ _ _ rfl (gh_ga [] (ga_adr rfl rfl rfl (op_move (.base rfl))) (by kernel_rfl)) (
                              AE.cons _ _ _ rfl (gh_ga [] (ga_adr rfl rfl rfl (op_index Tryz.underlying25 ty37 (.base rfl) (.base rfl) rfl (List.getElem?_eq_getElem (by first | omega | (simp; done) | (simp; omega) | (simp at hg; omega))))) (by kernel_rfl)) (
                              AE.cons _ _ _ rfl (gh_ga [] (ga_adr rfl rfl rfl (op_load ty37 (.base rfl))) (by kernel_rfl)) (
                              AE.cons _ _ _ rfl (gh_ga [] (ga_adr rfl rfl rfl (op_move (.base rfl))) (by kernel_rfl)) (
                              AE.cons _ _ _ rfl (gh_ga [] (ga_adr rfl rfl rfl (op_index Tryz.underlying25 ty37 (.base rfl) (.base rfl) rfl (List.getElem?_eq_getElem (by first | omega | (simp; done) | (simp; omega) | (simp at hg; omega))))) (by kernel_rfl)) (
                              AE.cons _ _ _ rfl (gh_ga [] (ga_adr rfl rfl rfl (op_load ty37 (.base rfl))) (by kernel_rfl)) (
                              AE.cons _ _ _ rfl (gh_ga [] (ga_adr rfl rfl rfl (op_seql eq37 rfl rfl eg37 (.tv (.base rfl)) (.tv (.base rfl)))) (by kernel_rfl)) (
                              AE.cons _ _ _ rfl (gh_ga [] (ga_adr rfl rfl rfl (op_move (.base rfl))) (by kernel_rfl)) (
                              AE.cons _ _ _ rfl (gh_ga [] (ga_gd _ _ _ _ rfl rfl rfl rfl rfl (fun hg => op_move (.base rfl))) (by kernel_rfl)) (
                              AE.cons _ _ _ rfl (gh_ga [] (ga_gd _ _ _ _ rfl rfl rfl rfl rfl (fun hg => op_index Tryz.underlying25 ty37 (.gd rfl hg) (.base rfl) rfl (getD_some (z := ((0, 0) : TType)) (by first | omega | (simp; done) | (simp; omega) | (simp at hg; omega) | (simp at hg; simp; omega))))) (by kernel_rfl)) (
                              AE.cons _ _ _ rfl (gh_ga [] (ga_gd _ _ _ _ rfl rfl rfl rfl rfl (fun hg => op_field fld37_0 ln37_0 (.gd rfl hg))) (by kernel_rfl)) (
                              AE.cons _ _ _ rfl (gh_ga [] (ga_gd _ _ _ _ rfl rfl rfl rfl rfl (fun hg => op_load ty3 (.gd rfl hg))) (by kernel_rfl)) (
                              AE.cons _ _ _ rfl (gh_ga [] (ga_gd _ _ _ _ rfl rfl rfl rfl rfl (fun hg => op_call (isNumber_ok _) (.cons (.gd rfl hg) .nil) rfl rfl)) (by kernel_rfl)) (
                              AE.cons _ _ _ rfl (gh_ga [] (ga_gd _ _ _ _ rfl rfl rfl rfl rfl (fun hg => op_move (.gd rfl hg))) (by kernel_rfl)) (
                              AE.cons _ _ _ rfl (gh_ga [] (ga_gd2 _ _ _ _ _ rfl rfl rfl rfl rfl (fun hg => op_move (.base rfl))) (by kernel_rfl)) (
                              AE.cons _ _ _ rfl (gh_ga [] (ga_gd2 _ _ _ _ _ rfl rfl rfl rfl rfl (fun hg => op_index Tryz.underlying25 ty37 (.gd rfl hg) (.base rfl) rfl (getD_some (z := ((0, 0) : TType)) (by first | omega | (simp; done) | (simp; omega) | (simp at hg; omega) | (simp at hg; simp; omega))))) (by kernel_rfl)) (
                              AE.cons _ _ _ rfl (gh_ga [] (ga_gd2 _ _ _ _ _ rfl rfl rfl rfl rfl (fun hg => op_field fld37_0 ln37_0 (.gd rfl hg))) (by kernel_rfl)) (
                              AE.cons _ _ _ rfl (gh_ga [] (ga_gd2 _ _ _ _ _ rfl rfl rfl rfl rfl (fun hg => op_load ty3 (.gd rfl hg))) (by kernel_rfl)) (
                              AE.cons _ _ _ rfl (gh_ga [] (ga_gd2 _ _ _ _ _ rfl rfl rfl rfl rfl (fun hg => op_eql (.gd rfl hg) (.base rfl))) (by kernel_rfl)) (
                              AE.cons _ _ _ rfl (gh_ga [] (ga_gd _ _ _ _ rfl rfl rfl rfl rfl (fun hg => op_pick_or (.gd rfl hg) (.base rfl) rfl (by intro h; first | (rw [h]; rfl) | (rw [hg, h]; rfl) | (rw [h, hg]; rfl) | simp_all))) (by kernel_rfl)) (
                              AE.cons _ _ _ rfl (gh_ga [] (ga_adr rfl rfl rfl (op_pick_and (.base rfl) (.base rfl) rfl (by intro h; first | (rw [h]; rfl) | (rw [hg, h]; rfl) | (rw [h, hg]; rfl) | simp_all))) (by kernel_rfl)) (
                              AE.cons _ _ _ rfl (gh_store ty37 (.base rfl) rfl rfl (Lens.id _) (.tv (.base rfl))) (
                              AE.cons _ _ _ rfl (gh_ga [] (ga_adr rfl rfl rfl (op_assign (.base rfl))) (by kernel_rfl)) (
                              AE.nil))))))))))))))))))))))))) (by kernel_rfl) ?_
                            refine jn_keep [4, 5] [4] (.cons rfl (.cons rfl .nil)) (.cons rfl .nil) ?_
                            refine jn_seq (j_ret (jr_blk (jr_seq ?_)))
                            exact jr_fin2 Tryz.results47 (res_cell ty37 rfl rfl rfl (Lens.id rType)) (res_tmp rfl) ⟨rfl, rfl⟩ (svB_eq (by subst_vars; first | rfl | (simp [resultType]; done) | (simp [resultType, *]; done) | (unfold resultType; split <;> simp [*])))
                          · have g22 := h22; try simp at h22
                            refine j_region ?_
                            refine jg_adr _ rfl _ rfl rfl (op_eql (.base rfl) (.base rfl)) ?_
                            refine jg_adr _ rfl _ rfl rfl (op_assign (.base rfl)) ?_
                            refine jg_nil ?_
                            refine jn_keep [1, 4, 6, 8, 118] [4, 6] (.cons rfl (.cons rfl (.cons rfl (.cons rfl (.cons rfl .nil))))) (.cons rfl (.cons rfl .nil)) ?_
                            refine jn_seq ?_
                            refine j_cond rfl (fun h23 => ?_) (fun h23 => ?_)
                            · have g23 := h23; try simp at h23
                              refine j_seq ?_
                              obtain ⟨x, y, rfl⟩ := len2 (l := l) (by have e := hl; unfold arity at e; (repeat' split at e) <;> omega)
                              refine j_drawE mo (by kernel_rfl) (
                                AE.cons _ _ _ rfl (gh_ga [6] (ga_adr rfl rfl rfl (op_oload ty37 (.base rfl) rfl rfl (Lens.id _))) (by kernel_rfl)) (
                                AE.cons _ _ _ rfl (gh_ga [] (ga_adr rfl rfl rfl (op_move (.base rfl))) (by kernel_rfl)) (
                                AE.cons _ _ _ rfl (gh_ga [] (ga_adr rfl rfl rfl (op_index Tryz.underlying25 ty37 (.base rfl) (.base rfl) rfl (List.getElem?_eq_getElem (by first | omega | (simp; done) | (simp; omega) | (simp at hg; omega))))) (by kernel_rfl)) (
                                AE.cons _ _ _ rfl (gh_ga [] (ga_adr rfl rfl rfl (op_load ty37 (.base rfl))) (by kernel_rfl)) (
                                AE.cons _ _ _ rfl (gh_ga [] (ga_adr rfl rfl rfl (op_move (.base rfl))) (by kernel_rfl)) (
                                AE.cons _ _ _ rfl (gh_ga [] (ga_adr rfl rfl rfl (op_index Tryz.underlying25 ty37 (.base rfl) (.base rfl) rfl (List.getElem?_eq_getElem (by first | omega | (simp; done) | (simp; omega) | (simp at hg; omega))))) (by kernel_rfl)) (
                                AE.cons _ _ _ rfl (gh_ga [] (ga_adr rfl rfl rfl (op_load ty37 (.base rfl))) (by kernel_rfl)) (
                                AE.cons _ _ _ rfl (gh_ga [] (ga_adr rfl rfl rfl (op_seql eq37 rfl rfl eg37 (.tv (.base rfl)) (.tv (.base rfl)))) (by kernel_rfl)) (
                                AE.cons _ _ _ rfl (gh_ga [] (ga_adr rfl rfl rfl (op_move (.base rfl))) (by kernel_rfl)) (
                                AE.cons _ _ _ rfl (gh_ga [] (ga_gd _ _ _ _ rfl rfl rfl rfl rfl (fun hg => op_move (.base rfl))) (by kernel_rfl)) (
                                AE.cons _ _ _ rfl (gh_ga [] (ga_gd _ _ _ _ rfl rfl rfl rfl rfl (fun hg => op_index Tryz.underlying25 ty37 (.gd rfl hg) (.base rfl) rfl (getD_some (z := ((0, 0) : TType)) (by first | omega | (simp; done) | (simp; omega) | (simp at hg; omega) | (simp at hg; simp; omega))))) (by kernel_rfl)) (
                                AE.cons _ _ _ rfl (gh_ga [] (ga_gd _ _ _ _ rfl rfl rfl rfl rfl (fun hg => op_field fld37_0 ln37_0 (.gd rfl hg))) (by kernel_rfl)) (
                                AE.cons _ _ _ rfl (gh_ga [] (ga_gd _ _ _ _ rfl rfl rfl rfl rfl (fun hg => op_load ty3 (.gd rfl hg))) (by kernel_rfl)) (
                                AE.cons _ _ _ rfl (gh_ga [] (ga_gd _ _ _ _ rfl rfl rfl rfl rfl (fun hg => op_call (isNumber_ok _) (.cons (.gd rfl hg) .nil) rfl rfl)) (by kernel_rfl)) (
                                AE.cons _ _ _ rfl (gh_ga [] (ga_gd _ _ _ _ rfl rfl rfl rfl rfl (fun hg => op_move (.gd rfl hg))) (by kernel_rfl)) (
                                AE.cons _ _ _ rfl (gh_ga [] (ga_gd2 _ _ _ _ _ rfl rfl rfl rfl rfl (fun hg => op_move (.base rfl))) (by kernel_rfl)) (
                                AE.cons _ _ _ rfl (gh_ga [] (ga_gd2 _ _ _ _ _ rfl rfl rfl rfl rfl (fun hg => op_index Tryz.underlying25 ty37 (.gd rfl hg) (.base rfl) rfl (getD_some (z := ((0, 0) : TType)) (by first | omega | (simp; done) | (simp; omega) | (simp at hg; omega) | (simp at hg; simp; omega))))) (by kernel_rfl)) (
                                AE.cons _ _ _ rfl (gh_ga [] (ga_gd2 _ _ _ _ _ rfl rfl rfl rfl rfl (fun hg => op_field fld37_0 ln37_0 (.gd rfl hg))) (by kernel_rfl)) (
                                AE.cons _ _ _ rfl (gh_ga [] (ga_gd2 _ _ _ _ _ rfl rfl rfl rfl rfl (fun hg => op_load ty3 (.gd rfl hg))) (by kernel_rfl)) (
                                AE.cons _ _ _ rfl (gh_ga [] (ga_gd2 _ _ _ _ _ rfl rfl rfl rfl rfl (fun hg => op_eql (.gd rfl hg) (.base rfl))) (by kernel_rfl)) (
                                AE.cons _ _ _ rfl (gh_ga [] (ga_gd _ _ _ _ rfl rfl rfl rfl rfl (fun hg => op_pick_or (.gd rfl hg) (.base rfl) rfl (by intro h; first | (rw [h]; rfl) | (rw [hg, h]; rfl) | (rw [h, hg]; rfl) | simp_all))) (by kernel_rfl)) (
                                AE.cons _ _ _ rfl (gh_ga [] (ga_adr rfl rfl rfl (op_pick_and (.base rfl) (.base rfl) rfl (by intro h; first | (rw [h]; rfl) | (rw [hg, h]; rfl) | (rw [h, hg]; rfl) | simp_all))) (by kernel_rfl)) (
                                AE.cons _ _ _ rfl (gh_store ty37 (.base rfl) rfl rfl (Lens.id _) (.tv (.base rfl))) (
                                AE.cons _ _ _ rfl (gh_ga [] (ga_adr rfl rfl rfl (op_assign (.base rfl))) (by kernel_rfl)) (
                                AE.nil))))))))))))))))))))))))) (by kernel_rfl) ?_
                              refine jn_keep [4, 5] [4] (.cons rfl (.cons rfl .nil)) (.cons rfl .nil) ?_
                              refine jn_seq (j_ret (jr_blk (jr_seq ?_)))
                              exact jr_fin2 Tryz.results47 (res_cell ty37 rfl rfl rfl (Lens.id rType)) (res_tmp rfl) ⟨rfl, rfl⟩ (svB_eq (by subst_vars; first | rfl | (simp [resultType]; done) | (simp [resultType, *]; done) | (unfold resultType; split <;> simp [*])))
                            · have g23 := h23; try simp at h23
                              refine j_seq (j_seq ?_)
                              refine j_region ?_
                              refine jg_adr _ rfl _ rfl rfl (op_eql (.base rfl) (.base rfl)) ?_
                              refine jg_adr _ rfl _ rfl rfl (op_assign (.base rfl)) ?_
                              refine jg_nil ?_
                              refine jn_keep [1, 4, 6, 8, 143] [4, 6] (.cons rfl (.cons rfl (.cons rfl (.cons rfl (.cons rfl .nil))))) (.cons rfl (.cons rfl .nil)) ?_
                              refine jn_seq ?_
                              refine j_cond rfl (fun h25 => ?_) (fun h25 => ?_)
                              · have g25 := h25; try simp at h25
                                refine j_skip (jn_seq ?_)
                                refine j_cond_t rfl g25 (j_seq ?_)
                                obtain ⟨x, y, rfl⟩ := len2 (l := l) (by have e := hl; unfold arity at e; (repeat' split at e) <;> omega)
                                refine j_drawE mo (by kernel_rfl) (
                                  AE.cons _ _ _ rfl (gh_ga [6] (ga_adr rfl rfl rfl (op_oload ty37 (.base rfl) rfl rfl (Lens.id _))) (by kernel_rfl)) (
                                  AE.cons _ _ _ rfl (gh_ga [] (ga_adr rfl rfl rfl (op_move (.base rfl))) (by kernel_rfl)) (
                                  AE.cons _ _ _ rfl (gh_ga [] (ga_adr rfl rfl rfl (op_index Tryz.underlying25 ty37 (.base rfl) (.base rfl) rfl (List.getElem?_eq_getElem (by first | omega | (simp; done) | (simp; omega) | (simp at hg; omega))))) (by kernel_rfl)) (
                                  AE.cons _ _ _ rfl (gh_ga [] (ga_adr rfl rfl rfl (op_field fld37_0 ln37_0 (.base rfl))) (by kernel_rfl)) (
                                  AE.cons _ _ _ rfl (gh_ga [] (ga_adr rfl rfl rfl (op_load ty3 (.base rfl))) (by kernel_rfl)) (
                                  AE.cons _ _ _ rfl (gh_ga [] (ga_adr rfl rfl rfl (op_eql (.base rfl) (.base rfl))) (by kernel_rfl)) (
                                  AE.cons _ _ _ rfl (gh_ga [] (ga_adr rfl rfl rfl (op_move (.base rfl))) (by kernel_rfl)) (
                                  AE.cons _ _ _ rfl (gh_ga [] (ga_gd _ _ _ _ rfl rfl rfl rfl rfl (fun hg => op_move (.base rfl))) (by kernel_rfl)) (
                                  AE.cons _ _ _ rfl (gh_ga [] (ga_gd _ _ _ _ rfl rfl rfl rfl rfl (fun hg => op_index Tryz.underlying25 ty37 (.gd rfl hg) (.base rfl) rfl (getD_some (z := ((0, 0) : TType)) (by first | omega | (simp; done) | (simp; omega) | (simp at hg; omega) | (simp at hg; simp; omega))))) (by kernel_rfl)) (
                                  AE.cons _ _ _ rfl (gh_ga [] (ga_gd _ _ _ _ rfl rfl rfl rfl rfl (fun hg => op_field fld37_0 ln37_0 (.gd rfl hg))) (by kernel_rfl)) (
                                  AE.cons _ _ _ rfl (gh_ga [] (ga_gd _ _ _ _ rfl rfl rfl rfl rfl (fun hg => op_load ty3 (.gd rfl hg))) (by kernel_rfl)) (
                                  AE.cons _ _ _ rfl (gh_ga [] (ga_gd _ _ _ _ rfl rfl rfl rfl rfl (fun hg => op_eql (.gd rfl hg) (.base rfl))) (by kernel_rfl)) (
                                  AE.cons _ _ _ rfl (gh_ga [] (ga_adr rfl rfl rfl (op_pick_and (.base rfl) (.base rfl) rfl (by intro h; first | (rw [h]; rfl) | (rw [hg, h]; rfl) | (rw [h, hg]; rfl) | simp_all))) (by kernel_rfl)) (
                                  AE.cons _ _ _ rfl (gh_store ty37 (.base rfl) rfl rfl (Lens.id _) (.tv (.base rfl))) (
                                  AE.cons _ _ _ rfl (gh_ga [] (ga_adr rfl rfl rfl (op_assign (.base rfl))) (by kernel_rfl)) (
                                  AE.nil)))))))))))))))) (by kernel_rfl) ?_
                                refine jn_keep [4, 5] [4] (.cons rfl (.cons rfl .nil)) (.cons rfl .nil) ?_
                                refine jn_seq (j_ret (jr_blk (jr_seq ?_)))
                                exact jr_fin2 Tryz.results47 (res_cell ty37 rfl rfl rfl (Lens.id rType)) (res_tmp rfl) ⟨rfl, rfl⟩ (svB_eq (by subst_vars; first | rfl | (simp [resultType]; done) | (simp [resultType, *]; done) | (unfold resultType; split <;> simp [*])))
                              · have g25 := h25; try simp at h25
                                refine j_region ?_
                                refine jg_adr _ rfl _ rfl rfl (op_eql (.base rfl) (.base rfl)) ?_
                                refine jg_adr _ rfl _ rfl rfl (op_assign (.base rfl)) ?_
                                refine jg_nil ?_
                                refine jn_keep [1, 4, 6, 8, 143] [4, 6] (.cons rfl (.cons rfl (.cons rfl (.cons rfl (.cons rfl .nil))))) (.cons rfl (.cons rfl .nil)) ?_
                                refine jn_seq ?_
                                refine j_cond rfl (fun h26 => ?_) (fun h26 => ?_)
                                · have g26 := h26; try simp at h26
                                  refine j_seq ?_
                                  obtain ⟨x, y, rfl⟩ := len2 (l := l) (by have e := hl; unfold arity at e; (repeat' split at e) <;> omega)
                                  refine j_drawE mo (by kernel_rfl) (
                                    AE.cons _ _ _ rfl (gh_ga [6] (ga_adr rfl rfl rfl (op_oload ty37 (.base rfl) rfl rfl (Lens.id _))) (by kernel_rfl)) (
                                    AE.cons _ _ _ rfl (gh_ga [] (ga_adr rfl rfl rfl (op_move (.base rfl))) (by kernel_rfl)) (
                                    AE.cons _ _ _ rfl (gh_ga [] (ga_adr rfl rfl rfl (op_index Tryz.underlying25 ty37 (.base rfl) (.base rfl) rfl (List.getElem?_eq_getElem (by first | omega | (simp; done) | (simp; omega) | (simp at hg; omega))))) (by kernel_rfl)) (
                                    AE.cons _ _ _ rfl (gh_ga [] (ga_adr rfl rfl rfl (op_field fld37_0 ln37_0 (.base rfl))) (by kernel_rfl)) (
                                    AE.cons _ _ _ rfl (gh_ga [] (ga_adr rfl rfl rfl (op_load ty3 (.base rfl))) (by kernel_rfl)) (
                                    AE.cons _ _ _ rfl (gh_ga [] (ga_adr rfl rfl rfl (op_eql (.base rfl) (.base rfl))) (by kernel_rfl)) (
                                    AE.cons _ _ _ rfl (gh_ga [] (ga_adr rfl rfl rfl (op_move (.base rfl))) (by kernel_rfl)) (
                                    AE.cons _ _ _ rfl (gh_ga [] (ga_gd _ _ _ _ rfl rfl rfl rfl rfl (fun hg => op_move (.base rfl))) (by kernel_rfl)) (
                                    AE.cons _ _ _ rfl (gh_ga [] (ga_gd _ _ _ _ rfl rfl rfl rfl rfl (fun hg => op_index Tryz.underlying25 ty37 (.gd rfl hg) (.base rfl) rfl (getD_some (z := ((0, 0) : TType)) (by first | omega | (simp; done) | (simp; omega) | (simp at hg; omega) | (simp at hg; simp; omega))))) (by kernel_rfl)) (
                                    AE.cons _ _ _ rfl (gh_ga [] (ga_gd _ _ _ _ rfl rfl rfl rfl rfl (fun hg => op_field fld37_0 ln37_0 (.gd rfl hg))) (by kernel_rfl)) (
                                    AE.cons _ _ _ rfl (gh_ga [] (ga_gd _ _ _ _ rfl rfl rfl rfl rfl (fun hg => op_load ty3 (.gd rfl hg))) (by kernel_rfl)) (
                                    AE.cons _ _ _ rfl (gh_ga [] (ga_gd _ _ _ _ rfl rfl rfl rfl rfl (fun hg => op_eql (.gd rfl hg) (.base rfl))) (by kernel_rfl)) (
                                    AE.cons _ _ _ rfl (gh_ga [] (ga_adr rfl rfl rfl (op_pick_and (.base rfl) (.base rfl) rfl (by intro h; first | (rw [h]; rfl) | (rw [hg, h]; rfl) | (rw [h, hg]; rfl) | simp_all))) (by kernel_rfl)) (
                                    AE.cons _ _ _ rfl (gh_store ty37 (.base rfl) rfl rfl (Lens.id _) (.tv (.base rfl))) (
                                    AE.cons _ _ _ rfl (gh_ga [] (ga_adr rfl rfl rfl (op_assign (.base rfl))) (by kernel_rfl)) (
                                    AE.nil)))))))))))))))) (by kernel_rfl) ?_
                                  refine jn_keep [4, 5] [4] (.cons rfl (.cons rfl .nil)) (.cons rfl .nil) ?_
                                  refine jn_seq (j_ret (jr_blk (jr_seq ?_)))
                                  exact jr_fin2 Tryz.results47 (res_cell ty37 rfl rfl rfl (Lens.id rType)) (res_tmp rfl) ⟨rfl, rfl⟩ (svB_eq (by subst_vars; first | rfl | (simp [resultType]; done) | (simp [resultType, *]; done) | (unfold resultType; split <;> simp [*])))
                                · have g26 := h26; try simp at h26
                                  refine j_seq ?_
                                  refine j_region ?_
                                  refine jg_adr _ rfl _ rfl rfl (op_eql (.base rfl) (.base rfl)) ?_
                                  refine jg_adr _ rfl _ rfl rfl (op_assign (.base rfl)) ?_
                                  refine jg_nil ?_
                                  refine jn_keep [1, 4, 8, 159] [4] (.cons rfl (.cons rfl (.cons rfl (.cons rfl .nil)))) (.cons rfl .nil) ?_
                                  refine jn_seq ?_
                                  refine j_cond rfl (fun h28 => ?_) (fun h28 => ?_)
                                  · try simp at h28
                                    refine j_seq ?_
                                    obtain ⟨x, y, z, rfl⟩ := len3 (l := l) (by have e := hl; unfold arity at e; (repeat' split at e) <;> omega)
                                    refine j_drawE mo (by kernel_rfl) (
                                      AE.cons _ _ _ rfl (gh_ga [] (ga_adr rfl rfl rfl (op_move (.base rfl))) (by kernel_rfl)) (
                                      AE.cons _ _ _ rfl (gh_ga [] (ga_adr rfl rfl rfl (op_index Tryz.underlying25 ty37 (.base rfl) (.base rfl) rfl (List.getElem?_eq_getElem (by first | omega | (simp; done) | (simp; omega) | (simp at hg; omega))))) (by kernel_rfl)) (
                                      AE.cons _ _ _ rfl (gh_ga [] (ga_adr rfl rfl rfl (op_load ty37 (.base rfl))) (by kernel_rfl)) (
                                      AE.cons _ _ _ rfl (gh_ga [] (ga_adr rfl rfl rfl (op_move (.base rfl))) (by kernel_rfl)) (
                                      AE.cons _ _ _ rfl (gh_ga [] (ga_adr rfl rfl rfl (op_index Tryz.underlying25 ty37 (.base rfl) (.base rfl) rfl (List.getElem?_eq_getElem (by first | omega | (simp; done) | (simp; omega) | (simp at hg; omega))))) (by kernel_rfl)) (
                                      AE.cons _ _ _ rfl (gh_ga [] (ga_adr rfl rfl rfl (op_field fld37_0 ln37_0 (.base rfl))) (by kernel_rfl)) (
                                      AE.cons _ _ _ rfl (gh_ga [] (ga_adr rfl rfl rfl (op_load ty3 (.base rfl))) (by kernel_rfl)) (
                                      AE.cons _ _ _ rfl (gh_ga [] (ga_adr rfl rfl rfl (op_eql (.base rfl) (.base rfl))) (by kernel_rfl)) (
                                      AE.cons _ _ _ rfl (gh_ga [] (ga_adr rfl rfl rfl (op_move (.base rfl))) (by kernel_rfl)) (
                                      AE.cons _ _ _ rfl (gh_ga [] (ga_gd _ _ _ _ rfl rfl rfl rfl rfl (fun hg => op_move (.base rfl))) (by kernel_rfl)) (
                                      AE.cons _ _ _ rfl (gh_ga [] (ga_gd _ _ _ _ rfl rfl rfl rfl rfl (fun hg => op_index Tryz.underlying25 ty37 (.gd rfl hg) (.base rfl) rfl (getD_some (z := ((0, 0) : TType)) (by first | omega | (simp; done) | (simp; omega) | (simp at hg; omega) | (simp at hg; simp; omega))))) (by kernel_rfl)) (
                                      AE.cons _ _ _ rfl (gh_ga [] (ga_gd _ _ _ _ rfl rfl rfl rfl rfl (fun hg => op_load ty37 (.gd rfl hg))) (by kernel_rfl)) (
                                      AE.cons _ _ _ rfl (gh_ga [] (ga_gd _ _ _ _ rfl rfl rfl rfl rfl (fun hg => op_move (.base rfl))) (by kernel_rfl)) (
                                      AE.cons _ _ _ rfl (gh_ga [] (ga_gd _ _ _ _ rfl rfl rfl rfl rfl (fun hg => op_index Tryz.underlying25 ty37 (.gd rfl hg) (.base rfl) rfl (getD_some (z := ((0, 0) : TType)) (by first | omega | (simp; done) | (simp; omega) | (simp at hg; omega) | (simp at hg; simp; omega))))) (by kernel_rfl)) (
                                      AE.cons _ _ _ rfl (gh_ga [] (ga_gd _ _ _ _ rfl rfl rfl rfl rfl (fun hg => op_load ty37 (.gd rfl hg))) (by kernel_rfl)) (
                                      AE.cons _ _ _ rfl (gh_ga [] (ga_gd _ _ _ _ rfl rfl rfl rfl rfl (fun hg => op_seql eq37 rfl rfl eg37 (.tv (.gd rfl hg)) (.tv (.gd rfl hg)))) (by kernel_rfl)) (
                                      AE.cons _ _ _ rfl (gh_ga [] (ga_adr rfl rfl rfl (op_pick_and (.base rfl) (.base rfl) rfl (by intro h; first | (rw [h]; rfl) | (rw [hg, h]; rfl) | (rw [h, hg]; rfl) | simp_all))) (by kernel_rfl)) (
                                      AE.cons _ _ _ rfl (gh_store ty37 (.base rfl) rfl rfl (Lens.id _) (.tv (.base rfl))) (
                                      AE.cons _ _ _ rfl (gh_ga [] (ga_adr rfl rfl rfl (op_assign (.base rfl))) (by kernel_rfl)) (
                                      AE.nil)))))))))))))))))))) (by kernel_rfl) ?_
                                    refine jn_keep [4, 5] [4] (.cons rfl (.cons rfl .nil)) (.cons rfl .nil) ?_
                                    refine jn_seq (j_ret (jr_blk (jr_seq ?_)))
                                    exact jr_fin2 Tryz.results47 (res_cell ty37 rfl rfl rfl (Lens.id rType)) (res_tmp rfl) ⟨rfl, rfl⟩ (svB_eq (by subst_vars; first | rfl | (simp [resultType]; done) | (simp [resultType, *]; done) | (unfold resultType; split <;> simp [*])))
                                  · try simp at h28
                                    refine j_seq (j_seq ?_)
                                    refine j_region ?_
                                    refine jg_adr _ rfl _ rfl rfl (op_eql (.base rfl) (.base rfl)) ?_
                                    refine jg_adr _ rfl _ rfl rfl (op_assign (.base rfl)) ?_
                                    refine jg_nil ?_
                                    refine jn_keep [1, 4, 8, 178] [4] (.cons rfl (.cons rfl (.cons rfl (.cons rfl .nil)))) (.cons rfl .nil) ?_
                                    refine jn_seq ?_
                                    refine j_cond rfl (fun h30 => ?_) (fun h30 => ?_)
                                    · have g30 := h30; try simp at h30
                                      refine j_skip (jn_seq ?_)
                                      refine j_cond_t rfl g30 (j_seq ?_)
                                      obtain ⟨x, y, rfl⟩ := len2 (l := l) (by have e := hl; unfold arity at e; (repeat' split at e) <;> omega)
                                      refine j_drawE mo (by kernel_rfl) (
                                        AE.cons _ _ _ rfl (gh_ga [] (ga_adr rfl rfl rfl (op_move (.base rfl))) (by kernel_rfl)) (
                                        AE.cons _ _ _ rfl (gh_ga [] (ga_adr rfl rfl rfl (op_index Tryz.underlying25 ty37 (.base rfl) (.base rfl) rfl (List.getElem?_eq_getElem (by first | omega | (simp; done) | (simp; omega) | (simp at hg; omega))))) (by kernel_rfl)) (
                                        AE.cons _ _ _ rfl (gh_ga [] (ga_adr rfl rfl rfl (op_load ty37 (.base rfl))) (by kernel_rfl)) (
                                        AE.cons _ _ _ rfl (gh_ga [] (ga_adr rfl rfl rfl (op_move (.base rfl))) (by kernel_rfl)) (
                                        AE.cons _ _ _ rfl (gh_ga [] (ga_adr rfl rfl rfl (op_index Tryz.underlying25 ty37 (.base rfl) (.base rfl) rfl (List.getElem?_eq_getElem (by first | omega | (simp; done) | (simp; omega) | (simp at hg; omega))))) (by kernel_rfl)) (
                                        AE.cons _ _ _ rfl (gh_ga [] (ga_adr rfl rfl rfl (op_field fld37_0 ln37_0 (.base rfl))) (by kernel_rfl)) (
                                        AE.cons _ _ _ rfl (gh_ga [] (ga_adr rfl rfl rfl (op_load ty3 (.base rfl))) (by kernel_rfl)) (
                                        AE.cons _ _ _ rfl (gh_ga [] (ga_adr rfl rfl rfl (op_eql (.base rfl) (.base rfl))) (by kernel_rfl)) (
                                        AE.cons _ _ _ rfl (gh_ga [] (ga_adr rfl rfl rfl (op_move (.base rfl))) (by kernel_rfl)) (
                                        AE.cons _ _ _ rfl (gh_ga [] (ga_gd _ _ _ _ rfl rfl rfl rfl rfl (fun hg => op_move (.base rfl))) (by kernel_rfl)) (
                                        AE.cons _ _ _ rfl (gh_ga [] (ga_gd _ _ _ _ rfl rfl rfl rfl rfl (fun hg => op_index Tryz.underlying25 ty37 (.gd rfl hg) (.base rfl) rfl (getD_some (z := ((0, 0) : TType)) (by first | omega | (simp; done) | (simp; omega) | (simp at hg; omega) | (simp at hg; simp; omega))))) (by kernel_rfl)) (
                                        AE.cons _ _ _ rfl (gh_ga [] (ga_gd _ _ _ _ rfl rfl rfl rfl rfl (fun hg => op_field fld37_0 ln37_0 (.gd rfl hg))) (by kernel_rfl)) (
                                        AE.cons _ _ _ rfl (gh_ga [] (ga_gd _ _ _ _ rfl rfl rfl rfl rfl (fun hg => op_load ty3 (.gd rfl hg))) (by kernel_rfl)) (
                                        AE.cons _ _ _ rfl (gh_ga [] (ga_gd _ _ _ _ rfl rfl rfl rfl rfl (fun hg => op_eql (.gd rfl hg) (.base rfl))) (by kernel_rfl)) (
                                        AE.cons _ _ _ rfl (gh_ga [] (ga_adr rfl rfl rfl (op_pick_and (.base rfl) (.base rfl) rfl (by intro h; first | (rw [h]; rfl) | (rw [hg, h]; rfl) | (rw [h, hg]; rfl) | simp_all))) (by kernel_rfl)) (
                                        AE.cons _ _ _ rfl (gh_store ty37 (.base rfl) rfl rfl (Lens.id _) (.tv (.base rfl))) (
                                        AE.cons _ _ _ rfl (gh_ga [] (ga_adr rfl rfl rfl (op_assign (.base rfl))) (by kernel_rfl)) (
                                        AE.nil)))))))))))))))))) (by kernel_rfl) ?_
                                      refine jn_keep [4, 5] [4] (.cons rfl (.cons rfl .nil)) (.cons rfl .nil) ?_
                                      refine jn_seq (j_ret (jr_blk (jr_seq ?_)))
                                      exact jr_fin2 Tryz.results47 (res_cell ty37 rfl rfl rfl (Lens.id rType)) (res_tmp rfl) ⟨rfl, rfl⟩ (svB_eq (by subst_vars; first | rfl | (simp [resultType]; done) | (simp [resultType, *]; done) | (unfold resultType; split <;> simp [*])))
                                    · have g30 := h30; try simp at h30
                                      refine j_region ?_
                                      refine jg_adr _ rfl _ rfl rfl (op_eql (.base rfl) (.base rfl)) ?_
                                      refine jg_adr _ rfl _ rfl rfl (op_assign (.base rfl)) ?_
                                      refine jg_nil ?_
                                      refine jn_keep [1, 4, 8, 178] [4] (.cons rfl (.cons rfl (.cons rfl (.cons rfl .nil)))) (.cons rfl .nil) ?_
                                      refine jn_seq ?_
                                      refine j_cond rfl (fun h31 => ?_) (fun h31 => ?_)
                                      · have g31 := h31; try simp at h31
                                        refine j_seq ?_
                                        obtain ⟨x, y, rfl⟩ := len2 (l := l) (by have e := hl; unfold arity at e; (repeat' split at e) <;> omega)
                                        refine j_drawE mo (by kernel_rfl) (
                                          AE.cons _ _ _ rfl (gh_ga [] (ga_adr rfl rfl rfl (op_move (.base rfl))) (by kernel_rfl)) (
                                          AE.cons _ _ _ rfl (gh_ga [] (ga_adr rfl rfl rfl (op_index Tryz.underlying25 ty37 (.base rfl) (.base rfl) rfl (List.getElem?_eq_getElem (by first | omega | (simp; done) | (simp; omega) | (simp at hg; omega))))) (by kernel_rfl)) (
                                          AE.cons _ _ _ rfl (gh_ga [] (ga_adr rfl rfl rfl (op_load ty37 (.base rfl))) (by kernel_rfl)) (
                                          AE.cons _ _ _ rfl (gh_ga [] (ga_adr rfl rfl rfl (op_move (.base rfl))) (by kernel_rfl)) (
                                          AE.cons _ _ _ rfl (gh_ga [] (ga_adr rfl rfl rfl (op_index Tryz.underlying25 ty37 (.base rfl) (.base rfl) rfl (List.getElem?_eq_getElem (by first | omega | (simp; done) | (simp; omega) | (simp at hg; omega))))) (by kernel_rfl)) (
                                          AE.cons _ _ _ rfl (gh_ga [] (ga_adr rfl rfl rfl (op_field fld37_0 ln37_0 (.base rfl))) (by kernel_rfl)) (
                                          AE.cons _ _ _ rfl (gh_ga [] (ga_adr rfl rfl rfl (op_load ty3 (.base rfl))) (by kernel_rfl)) (
                                          AE.cons _ _ _ rfl (gh_ga [] (ga_adr rfl rfl rfl (op_eql (.base rfl) (.base rfl))) (by kernel_rfl)) (
                                          AE.cons _ _ _ rfl (gh_ga [] (ga_adr rfl rfl rfl (op_move (.base rfl))) (by kernel_rfl)) (
                                          AE.cons _ _ _ rfl (gh_ga [] (ga_gd _ _ _ _ rfl rfl rfl rfl rfl (fun hg => op_move (.base rfl))) (by kernel_rfl)) (
                                          AE.cons _ _ _ rfl (gh_ga [] (ga_gd _ _ _ _ rfl rfl rfl rfl rfl (fun hg => op_index Tryz.underlying25 ty37 (.gd rfl hg) (.base rfl) rfl (getD_some (z := ((0, 0) : TType)) (by first | omega | (simp; done) | (simp; omega) | (simp at hg; omega) | (simp at hg; simp; omega))))) (by kernel_rfl)) (
                                          AE.cons _ _ _ rfl (gh_ga [] (ga_gd _ _ _ _ rfl rfl rfl rfl rfl (fun hg => op_field fld37_0 ln37_0 (.gd rfl hg))) (by kernel_rfl)) (
                                          AE.cons _ _ _ rfl (gh_ga [] (ga_gd _ _ _ _ rfl rfl rfl rfl rfl (fun hg => op_load ty3 (.gd rfl hg))) (by kernel_rfl)) (
                                          AE.cons _ _ _ rfl (gh_ga [] (ga_gd _ _ _ _ rfl rfl rfl rfl rfl (fun hg => op_eql (.gd rfl hg) (.base rfl))) (by kernel_rfl)) (
                                          AE.cons _ _ _ rfl (gh_ga [] (ga_adr rfl rfl rfl (op_pick_and (.base rfl) (.base rfl) rfl (by intro h; first | (rw [h]; rfl) | (rw [hg, h]; rfl) | (rw [h, hg]; rfl) | simp_all))) (by kernel_rfl)) (
                                          AE.cons _ _ _ rfl (gh_store ty37 (.base rfl) rfl rfl (Lens.id _) (.tv (.base rfl))) (
                                          AE.cons _ _ _ rfl (gh_ga [] (ga_adr rfl rfl rfl (op_assign (.base rfl))) (by kernel_rfl)) (
                                          AE.nil)))))))))))))))))) (by kernel_rfl) ?_
                                        refine jn_keep [4, 5] [4] (.cons rfl (.cons rfl .nil)) (.cons rfl .nil) ?_
                                        refine jn_seq (j_ret (jr_blk (jr_seq ?_)))
                                        exact jr_fin2 Tryz.results47 (res_cell ty37 rfl rfl rfl (Lens.id rType)) (res_tmp rfl) ⟨rfl, rfl⟩ (svB_eq (by subst_vars; first | rfl | (simp [resultType]; done) | (simp [resultType, *]; done) | (unfold resultType; split <;> simp [*])))
                                      · have g31 := h31; try simp at h31
                                        refine j_seq (j_seq ?_)
                                        refine j_region ?_
                                        refine jg_adr _ rfl _ rfl rfl (op_eql (.base rfl) (.base rfl)) ?_
                                        refine jg_adr _ rfl _ rfl rfl (op_assign (.base rfl)) ?_
                                        refine jg_nil ?_
                                        refine jn_keep [1, 4, 8, 196] [4] (.cons rfl (.cons rfl (.cons rfl (.cons rfl .nil)))) (.cons rfl .nil) ?_
                                        refine jn_seq ?_
                                        refine j_cond rfl (fun h33 => ?_) (fun h33 => ?_)
                                        · have g33 := h33; try simp at h33
                                          refine j_skip (jn_seq ?_)
                                          refine j_cond_t rfl g33 (j_seq ?_)
                                          obtain ⟨x, y, rfl⟩ := len2 (l := l) (by have e := hl; unfold arity at e; (repeat' split at e) <;> omega)
                                          refine j_drawE mo (by kernel_rfl) (
                                            AE.cons _ _ _ rfl (gh_ga [] (ga_adr rfl rfl rfl (op_build z37 rfl pl37 (.cons (rt' := (rInt .i64)) rfl ln37_0 (.raw (.base rfl) rfl) .nil))) (by kernel_rfl)) (
                                            AE.cons _ _ _ rfl (gh_ga [] (ga_adr rfl rfl rfl (op_move (.base rfl))) (by kernel_rfl)) (
                                            AE.cons _ _ _ rfl (gh_ga [] (ga_adr rfl rfl rfl (op_index Tryz.underlying25 ty37 (.base rfl) (.base rfl) rfl (List.getElem?_eq_getElem (by first | omega | (simp; done) | (simp; omega) | (simp at hg; omega))))) (by kernel_rfl)) (
                                            AE.cons _ _ _ rfl (gh_ga [] (ga_adr rfl rfl rfl (op_field fld37_0 ln37_0 (.base rfl))) (by kernel_rfl)) (
                                            AE.cons _ _ _ rfl (gh_ga [] (ga_adr rfl rfl rfl (op_load ty3 (.base rfl))) (by kernel_rfl)) (
                                            AE.cons _ _ _ rfl (gh_ga [] (ga_adr rfl rfl rfl (op_eql (.base rfl) (.base rfl))) (by kernel_rfl)) (
                                            AE.cons _ _ _ rfl (gh_ga [] (ga_adr rfl rfl rfl (op_move (.base rfl))) (by kernel_rfl)) (
                                            AE.cons _ _ _ rfl (gh_ga [] (ga_gd _ _ _ _ rfl rfl rfl rfl rfl (fun hg => op_move (.base rfl))) (by kernel_rfl)) (
                                            AE.cons _ _ _ rfl (gh_ga [] (ga_gd _ _ _ _ rfl rfl rfl rfl rfl (fun hg => op_index Tryz.underlying25 ty37 (.gd rfl hg) (.base rfl) rfl (getD_some (z := ((0, 0) : TType)) (by first | omega | (simp; done) | (simp; omega) | (simp at hg; omega) | (simp at hg; simp; omega))))) (by kernel_rfl)) (
                                            AE.cons _ _ _ rfl (gh_ga [] (ga_gd _ _ _ _ rfl rfl rfl rfl rfl (fun hg => op_field fld37_0 ln37_0 (.gd rfl hg))) (by kernel_rfl)) (
                                            AE.cons _ _ _ rfl (gh_ga [] (ga_gd _ _ _ _ rfl rfl rfl rfl rfl (fun hg => op_load ty3 (.gd rfl hg))) (by kernel_rfl)) (
                                            AE.cons _ _ _ rfl (gh_ga [] (ga_gd _ _ _ _ rfl rfl rfl rfl rfl (fun hg => op_eql (.gd rfl hg) (.base rfl))) (by kernel_rfl)) (
                                            AE.cons _ _ _ rfl (gh_ga [] (ga_adr rfl rfl rfl (op_pick_and (.base rfl) (.base rfl) rfl (by intro h; first | (rw [h]; rfl) | (rw [hg, h]; rfl) | (rw [h, hg]; rfl) | simp_all))) (by kernel_rfl)) (
                                            AE.cons _ _ _ rfl (gh_store ty37 (.base rfl) rfl rfl (Lens.id _) (.tv (.base rfl))) (
                                            AE.cons _ _ _ rfl (gh_ga [] (ga_adr rfl rfl rfl (op_assign (.base rfl))) (by kernel_rfl)) (
                                            AE.nil)))))))))))))))) (by kernel_rfl) ?_
                                          refine jn_keep [4, 5] [4] (.cons rfl (.cons rfl .nil)) (.cons rfl .nil) ?_
                                          refine jn_seq (j_ret (jr_blk (jr_seq ?_)))
                                          exact jr_fin2 Tryz.results47 (res_cell ty37 rfl rfl rfl (Lens.id rType)) (res_tmp rfl) ⟨rfl, rfl⟩ (svB_eq (by subst_vars; first | rfl | (simp [resultType]; done) | (simp [resultType, *]; done) | (unfold resultType; split <;> simp [*])))
                                        · have g33 := h33; try simp at h33
                                          refine j_region ?_
                                          refine jg_adr _ rfl _ rfl rfl (op_eql (.base rfl) (.base rfl)) ?_
                                          refine jg_adr _ rfl _ rfl rfl (op_assign (.base rfl)) ?_
                                          refine jg_nil ?_
                                          refine jn_keep [1, 4, 8, 196] [4] (.cons rfl (.cons rfl (.cons rfl (.cons rfl .nil)))) (.cons rfl .nil) ?_
                                          refine jn_seq ?_
                                          refine j_cond rfl (fun h34 => ?_) (fun h34 => ?_)
                                          · have g34 := h34; try simp at h34
                                            refine j_seq ?_
                                            obtain ⟨x, y, rfl⟩ := len2 (l := l) (by have e := hl; unfold arity at e; (repeat' split at e) <;> omega)
                                            refine j_drawE mo (by kernel_rfl) (
                                              AE.cons _ _ _ rfl (gh_ga [] (ga_adr rfl rfl rfl (op_build z37 rfl pl37 (.cons (rt' := (rInt .i64)) rfl ln37_0 (.raw (.base rfl) rfl) .nil))) (by kernel_rfl)) (
                                              AE.cons _ _ _ rfl (gh_ga [] (ga_adr rfl rfl rfl (op_move (.base rfl))) (by kernel_rfl)) (
                                              AE.cons _ _ _ rfl (gh_ga [] (ga_adr rfl rfl rfl (op_index Tryz.underlying25 ty37 (.base rfl) (.base rfl) rfl (List.getElem?_eq_getElem (by first | omega | (simp; done) | (simp; omega) | (simp at hg; omega))))) (by kernel_rfl)) (
                                              AE.cons _ _ _ rfl (gh_ga [] (ga_adr rfl rfl rfl (op_field fld37_0 ln37_0 (.base rfl))) (by kernel_rfl)) (
                                              AE.cons _ _ _ rfl (gh_ga [] (ga_adr rfl rfl rfl (op_load ty3 (.base rfl))) (by kernel_rfl)) (
                                              AE.cons _ _ _ rfl (gh_ga [] (ga_adr rfl rfl rfl (op_eql (.base rfl) (.base rfl))) (by kernel_rfl)) (
                                              AE.cons _ _ _ rfl (gh_ga [] (ga_adr rfl rfl rfl (op_move (.base rfl))) (by kernel_rfl)) (
                                              AE.cons _ _ _ rfl (gh_ga [] (ga_gd _ _ _ _ rfl rfl rfl rfl rfl (fun hg => op_move (.base rfl))) (by kernel_rfl)) (
                                              AE.cons _ _ _ rfl (gh_ga [] (ga_gd _ _ _ _ rfl rfl rfl rfl rfl (fun hg => op_index Tryz.underlying25 ty37 (.gd rfl hg) (.base rfl) rfl (getD_some (z := ((0, 0) : TType)) (by first | omega | (simp; done) | (simp; omega) | (simp at hg; omega) | (simp at hg; simp; omega))))) (by kernel_rfl)) (
                                              AE.cons _ _ _ rfl (gh_ga [] (ga_gd _ _ _ _ rfl rfl rfl rfl rfl (fun hg => op_field fld37_0 ln37_0 (.gd rfl hg))) (by kernel_rfl)) (
                                              AE.cons _ _ _ rfl (gh_ga [] (ga_gd _ _ _ _ rfl rfl rfl rfl rfl (fun hg => op_load ty3 (.gd rfl hg))) (by kernel_rfl)) (
                                              AE.cons _ _ _ rfl (gh_ga [] (ga_gd _ _ _ _ rfl rfl rfl rfl rfl (fun hg => op_eql (.gd rfl hg) (.base rfl))) (by kernel_rfl)) (
                                              AE.cons _ _ _ rfl (gh_ga [] (ga_adr rfl rfl rfl (op_pick_and (.base rfl) (.base rfl) rfl (by intro h; first | (rw [h]; rfl) | (rw [hg, h]; rfl) | (rw [h, hg]; rfl) | simp_all))) (by kernel_rfl)) (
                                              AE.cons _ _ _ rfl (gh_store ty37 (.base rfl) rfl rfl (Lens.id _) (.tv (.base rfl))) (
                                              AE.cons _ _ _ rfl (gh_ga [] (ga_adr rfl rfl rfl (op_assign (.base rfl))) (by kernel_rfl)) (
                                              AE.nil)))))))))))))))) (by kernel_rfl) ?_
                                            refine jn_keep [4, 5] [4] (.cons rfl (.cons rfl .nil)) (.cons rfl .nil) ?_
                                            refine jn_seq (j_ret (jr_blk (jr_seq ?_)))
                                            exact jr_fin2 Tryz.results47 (res_cell ty37 rfl rfl rfl (Lens.id rType)) (res_tmp rfl) ⟨rfl, rfl⟩ (svB_eq (by subst_vars; first | rfl | (simp [resultType]; done) | (simp [resultType, *]; done) | (unfold resultType; split <;> simp [*])))
                                          · have g34 := h34; try simp at h34
                                            refine j_seq (j_seq ?_)
                                            refine j_region ?_
                                            refine jg_adr _ rfl _ rfl rfl (op_eql (.base rfl) (.base rfl)) ?_
                                            refine jg_adr _ rfl _ rfl rfl (op_assign (.base rfl)) ?_
                                            refine jg_nil ?_
                                            refine jn_keep [1, 4, 8, 212] [4] (.cons rfl (.cons rfl (.cons rfl (.cons rfl .nil)))) (.cons rfl .nil) ?_
                                            refine jn_seq ?_
                                            refine j_cond rfl (fun h36 => ?_) (fun h36 => ?_)
                                            · have g36 := h36; try simp at h36
                                              refine j_skip (jn_seq ?_)
                                              refine j_cond_t rfl g36 (j_seq ?_)
                                              obtain ⟨x, rfl⟩ := len1 (l := l) (by have e := hl; unfold arity at e; (repeat' split at e) <;> omega)
                                              refine j_drawE mo (by kernel_rfl) (
                                                AE.cons _ _ _ rfl (gh_ga [] (ga_adr rfl rfl rfl (op_build z37 rfl pl37 (.cons (rt' := (rInt .i64)) rfl ln37_0 (.raw (.base rfl) rfl) .nil))) (by kernel_rfl)) (
                                                AE.cons _ _ _ rfl (gh_ga [] (ga_adr rfl rfl rfl (op_move (.base rfl))) (by kernel_rfl)) (
                                                AE.cons _ _ _ rfl (gh_ga [] (ga_adr rfl rfl rfl (op_index Tryz.underlying25 ty37 (.base rfl) (.base rfl) rfl (List.getElem?_eq_getElem (by first | omega | (simp; done) | (simp; omega) | (simp at hg; omega))))) (by kernel_rfl)) (
                                                AE.cons _ _ _ rfl (gh_ga [] (ga_adr rfl rfl rfl (op_field fld37_0 ln37_0 (.base rfl))) (by kernel_rfl)) (
                                                AE.cons _ _ _ rfl (gh_ga [] (ga_adr rfl rfl rfl (op_load ty3 (.base rfl))) (by kernel_rfl)) (
                                                AE.cons _ _ _ rfl (gh_ga [] (ga_adr rfl rfl rfl (op_eql (.base rfl) (.base rfl))) (by kernel_rfl)) (
                                                AE.cons _ _ _ rfl (gh_store ty37 (.base rfl) rfl rfl (Lens.id _) (.tv (.base rfl))) (
                                                AE.cons _ _ _ rfl (gh_ga [] (ga_adr rfl rfl rfl (op_assign (.base rfl))) (by kernel_rfl)) (
                                                AE.nil))))))))) (by kernel_rfl) ?_
                                              refine jn_keep [4, 5] [4] (.cons rfl (.cons rfl .nil)) (.cons rfl .nil) ?_
                                              refine jn_seq (j_ret (jr_blk (jr_seq ?_)))
                                              exact jr_fin2 Tryz.results47 (res_cell ty37 rfl rfl rfl (Lens.id rType)) (res_tmp rfl) ⟨rfl, rfl⟩ (svB_eq (by subst_vars; first | rfl | (simp [resultType]; done) | (simp [resultType, *]; done) | (unfold resultType; split <;> simp [*])))
                                            · have g36 := h36; try simp at h36
                                              refine j_region ?_
                                              refine jg_adr _ rfl _ rfl rfl (op_eql (.base rfl) (.base rfl)) ?_
                                              refine jg_adr _ rfl _ rfl rfl (op_assign (.base rfl)) ?_
                                              refine jg_nil ?_
                                              refine jn_keep [1, 4, 212] [4] (.cons rfl (.cons rfl (.cons rfl .nil))) (.cons rfl .nil) ?_
                                              refine jn_seq ?_
                                              refine j_cond rfl (fun h37 => ?_) (fun h37 => ?_)
                                              · have g37 := h37; try simp at h37
                                                refine j_seq ?_
                                                obtain ⟨x, rfl⟩ := len1 (l := l) (by have e := hl; unfold arity at e; (repeat' split at e) <;> omega)
                                                refine j_drawE mo (by kernel_rfl) (
                                                  AE.cons _ _ _ rfl (gh_ga [] (ga_adr rfl rfl rfl (op_build z37 rfl pl37 (.cons (rt' := (rInt .i64)) rfl ln37_0 (.raw (.base rfl) rfl) .nil))) (by kernel_rfl)) (
                                                  AE.cons _ _ _ rfl (gh_ga [] (ga_adr rfl rfl rfl (op_move (.base rfl))) (by kernel_rfl)) (
                                                  AE.cons _ _ _ rfl (gh_ga [] (ga_adr rfl rfl rfl (op_index Tryz.underlying25 ty37 (.base rfl) (.base rfl) rfl (List.getElem?_eq_getElem (by first | omega | (simp; done) | (simp; omega) | (simp at hg; omega))))) (by kernel_rfl)) (
                                                  AE.cons _ _ _ rfl (gh_ga [] (ga_adr rfl rfl rfl (op_field fld37_0 ln37_0 (.base rfl))) (by kernel_rfl)) (
                                                  AE.cons _ _ _ rfl (gh_ga [] (ga_adr rfl rfl rfl (op_load ty3 (.base rfl))) (by kernel_rfl)) (
                                                  AE.cons _ _ _ rfl (gh_ga [] (ga_adr rfl rfl rfl (op_eql (.base rfl) (.base rfl))) (by kernel_rfl)) (
                                                  AE.cons _ _ _ rfl (gh_store ty37 (.base rfl) rfl rfl (Lens.id _) (.tv (.base rfl))) (
                                                  AE.cons _ _ _ rfl (gh_ga [] (ga_adr rfl rfl rfl (op_assign (.base rfl))) (by kernel_rfl)) (
                                                  AE.nil))))))))) (by kernel_rfl) ?_
                                                refine jn_keep [4, 5] [4] (.cons rfl (.cons rfl .nil)) (.cons rfl .nil) ?_
                                                refine jn_seq (j_ret (jr_blk (jr_seq ?_)))
                                                exact jr_fin2 Tryz.results47 (res_cell ty37 rfl rfl rfl (Lens.id rType)) (res_tmp rfl) ⟨rfl, rfl⟩ (svB_eq (by subst_vars; first | rfl | (simp [resultType]; done) | (simp [resultType, *]; done) | (unfold resultType; split <;> simp [*])))
                                              · have g37 := h37; try simp at h37
                                                refine j_skip (jn_blk (jn_seq (j_seq ?_)))
                                                refine j_region ?_
                                                refine jg_adr _ rfl _ rfl rfl (op_build z37 rfl pl37 .nil) ?_
                                                refine jg_os _ rfl (op_ostore ty37 (.base rfl) rfl rfl (Lens.id _) (.tv (.base rfl))) ?_
                                                refine jg_adr _ rfl _ rfl rfl (op_assign (.base rfl)) ?_
                                                refine jg_nil ?_
                                                refine jn_keep [4, 5] [4] (.cons rfl (.cons rfl .nil)) (.cons rfl .nil) ?_
                                                refine jn_seq (j_ret ?_)
                                                exact jr_fin2 Tryz.results47 (res_cell ty37 rfl rfl rfl (Lens.id rType)) (res_tmp rfl) ⟨rfl, rfl⟩ (svB_eq (by subst_vars; first | rfl | (simp [resultType]; done) | (simp [resultType, *]; done) | (unfold resultType; split <;> simp [*])))

end Go.Proofs.YtgoggdaohdablaaGreat
