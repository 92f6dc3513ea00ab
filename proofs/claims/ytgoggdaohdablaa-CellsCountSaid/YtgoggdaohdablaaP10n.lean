import Derived.Test.YtgoggdaohdablaaP10m
namespace Go.Proofs.Ytgoggdaohdablaa
open Go.Eng
set_option maxRecDepth 100000
set_option maxHeartbeats 4000000
set_option linter.unusedVariables false
set_option linter.unusedSimpArgs false


def scaledT (op a b : Int) : TType × Bool :=
  if op = 13 then ((a, 0), b == 2 && (a == 2 || a == 3)) else if op = 14 then ((a, 0), b == 4 && (a == 3 || a == 4)) else if a = 3 ∧ b = 3 then ((4, 0), true) else ((a, 0), b == 2 && (a == 2 || a == 3))
def doubleT (op : Int) (a b : TType) : TType × Bool :=
  if op = 11 ∨ op = 12 then (a, a == b && isNumber a.1) else if op = 13 ∨ op = 14 ∨ op = 15 then scaledT op a.1 b.1 else if op = 16 then (a, a.1 == 3 && b.1 == 3)
    else if op = 17 ∨ op = 18 then (a, a == b && (isNumber a.1 || a.1 == 5)) else if op = 19 ∨ op = 20 then ((1, 0), a == b) else if op = 21 ∨ op = 22 then ((1, 0), a == b && (isNumber a.1 || a.1 == 5))
    else if op = 23 ∨ op = 24 then (a, a.1 == 1 && b.1 == 1) else if op = 27 ∨ op = 28 then (a, a.1 == 5 && b.1 == 2) else ((2, 0), a.1 == 5 && b.1 == 5)
def singleT (d : TNode) (a : TType) (s : TSignature) : TType × Bool :=
  if d.1 = 10 then (a, isNumber a.1) else if d.1 = 25 then (a, a.1 == 1) else if d.1 = 31 ∨ d.1 = 32 then ((2, 0), a.1 == 5)
  else if d.1 = 33 then ((nthTab s.2.1 d.2).2.2.1, validType (nthTab s.2.1 d.2).2.1 s.1 && validType (nthTab s.2.1 d.2).2.2.1 s.1 && a == (nthTab s.2.1 d.2).2.1)
  else (a, a.1 == 3 && (nthTab s.2.1 (d.2 / 8)).2.1 == (3, 0) && (nthTab s.2.1 (d.2 / 8)).2.2.1 == (4, 0))
def resultT (d : TNode) (l : List TType) (s : TSignature) : TType × Bool := match l with
  | [] => (leafT d s, leafOk d.1 (leafT d s).1 (validType (leafT d s) s.1))
  | [a] => singleT d a s
  | [a, b] => doubleT d.1 a b
  | [a, b, c] => (b, a.1 == 1 && b == c)
  | _ => ((0, 0), false)
def resultR (d : TNode) (l : List TType) (s : TSignature) : TType × Int :=
  if d.2 ≠ 0 ∧ usesN d.1 = false then ((0, 0), 2) else if ranged d s = false then ((0, 0), 3) else if found d s = false then ((0, 0), 6)
  else if (resultT d l s).2 = false then ((0, 0), 8) else ((resultT d l s).1, 0)

theorem scaled_ok (n a b : Int) : Ct Try.prog 77 [.raw (.int .i64 n), .raw (.int .i64 a), .raw (.int .i64 b)] (svB (scaledT n a b)) := by
  refine ct_intro Try.func77 rfl rfl Try.ntmps77 rfl rfl ?_
  intro w0 ok0
  refine j_seq ?_
  refine j_region ?_
  refine jg_os _ rfl (op_alloc _ z36 rfl rfl rfl) ?_
  refine jg_adr _ rfl _ rfl rfl (op_assign (.base rfl)) ?_
  refine jg_nil ?_
  refine jn_keep [0, 1, 2, 6] [6] (.cons rfl (.cons rfl (.cons rfl (.cons rfl .nil)))) (.cons rfl .nil) ?_
  refine jn_seq (j_seq (j_seq ?_))
  refine j_region ?_
  refine jg_adr _ rfl _ rfl rfl (op_move (.base rfl)) ?_
  refine jg_nil ?_
  refine jn_keep [1, 2, 6, 8] [6] (.cons rfl (.cons rfl (.cons rfl (.cons rfl .nil)))) (.cons rfl .nil) ?_
  refine jn_seq (j_block (j_seq ?_))
  refine j_region ?_
  refine jg_adr _ rfl _ rfl rfl (op_eql (.base rfl) (.base rfl)) ?_
  refine jg_adr _ rfl _ rfl rfl (op_assign (.base rfl)) ?_
  refine jg_nil ?_
  refine jn_keep [1, 2, 6, 8, 9] [6] (.cons rfl (.cons rfl (.cons rfl (.cons rfl (.cons rfl .nil))))) (.cons rfl .nil) ?_
  refine jn_seq ?_
  refine j_cond rfl (fun h2 => ?_) (fun h2 => ?_)
  · try simp at h2
    refine j_seq ?_
    refine j_region ?_
    refine jg_adr _ rfl _ rfl rfl (op_move (.base rfl)) ?_
    refine jg_adr _ rfl _ rfl rfl (op_call (rkind_ok _) (.cons (.base rfl) .nil) rfl rfl) ?_
    refine jg_adr _ rfl _ rfl rfl (op_move (.base rfl)) ?_
    refine jg_adr _ rfl _ rfl rfl (op_eql (.base rfl) (.base rfl)) ?_
    refine jg_adr _ rfl _ rfl rfl (op_move (.base rfl)) ?_
    refine jg_gd _ _ _ _ _ _ rfl rfl rfl rfl rfl (fun hg => op_move (.base rfl)) ?_
    refine jg_gd _ _ _ _ _ _ rfl rfl rfl rfl rfl (fun hg => op_eql (.gd rfl hg) (.base rfl)) ?_
    refine jg_gd _ _ _ _ _ _ rfl rfl rfl rfl rfl (fun hg => op_move (.gd rfl hg)) ?_
    refine jg_gd2 _ _ _ _ _ _ _ rfl rfl rfl rfl rfl (fun hg => op_move (.base rfl)) ?_
    refine jg_gd2 _ _ _ _ _ _ _ rfl rfl rfl rfl rfl (fun hg => op_eql (.gd rfl hg) (.base rfl)) ?_
    refine jg_gd _ _ _ _ _ _ rfl rfl rfl rfl rfl (fun hg => op_pick_or (.gd rfl hg) (.base rfl) rfl (by intro h; first | (rw [h]; rfl) | simp_all)) ?_
    refine jg_adr _ rfl _ rfl rfl (op_pick_and (.base rfl) (.base rfl) rfl (by intro h; first | (rw [h]; rfl) | simp_all)) ?_
    refine jg_os _ rfl (op_ostore ty36 (.base rfl) rfl rfl (Lens.id _) (.tv (.base rfl))) ?_
    refine jg_adr _ rfl _ rfl rfl (op_assign (.base rfl)) ?_
    refine jg_nil ?_
    refine jn_keep [6, 7] [6] (.cons rfl (.cons rfl .nil)) (.cons rfl .nil) ?_
    refine jn_seq (j_ret (jr_blk (jr_seq ?_)))
    exact jr_fin2 Try.results77 (res_cell ty36 rfl rfl rfl (Lens.id rType)) (res_tmp rfl) ⟨rfl, rfl⟩ (svB_eq (by subst_vars; first | rfl | (simp [scaledT]; done) | (simp [scaledT, *]; done) | (unfold scaledT; (repeat' split) <;> first | rfl | omega | (simp_all; done) | (simp_all; omega) | (simp_all [allowedM]; done) | (simp_all [allowedM]; omega))))
  · try simp at h2
    refine j_seq ?_
    refine j_region ?_
    refine jg_adr _ rfl _ rfl rfl (op_eql (.base rfl) (.base rfl)) ?_
    refine jg_adr _ rfl _ rfl rfl (op_assign (.base rfl)) ?_
    refine jg_nil ?_
    refine jn_keep [1, 2, 6, 23] [6] (.cons rfl (.cons rfl (.cons rfl (.cons rfl .nil)))) (.cons rfl .nil) ?_
    refine jn_seq ?_
    refine j_cond rfl (fun h4 => ?_) (fun h4 => ?_)
    · try simp at h4
      refine j_seq ?_
      refine j_region ?_
      refine jg_adr _ rfl _ rfl rfl (op_move (.base rfl)) ?_
      refine jg_adr _ rfl _ rfl rfl (op_call (rkind_ok _) (.cons (.base rfl) .nil) rfl rfl) ?_
      refine jg_adr _ rfl _ rfl rfl (op_move (.base rfl)) ?_
      refine jg_adr _ rfl _ rfl rfl (op_eql (.base rfl) (.base rfl)) ?_
      refine jg_adr _ rfl _ rfl rfl (op_move (.base rfl)) ?_
      refine jg_gd _ _ _ _ _ _ rfl rfl rfl rfl rfl (fun hg => op_move (.base rfl)) ?_
      refine jg_gd _ _ _ _ _ _ rfl rfl rfl rfl rfl (fun hg => op_eql (.gd rfl hg) (.base rfl)) ?_
      refine jg_gd _ _ _ _ _ _ rfl rfl rfl rfl rfl (fun hg => op_move (.gd rfl hg)) ?_
      refine jg_gd2 _ _ _ _ _ _ _ rfl rfl rfl rfl rfl (fun hg => op_move (.base rfl)) ?_
      refine jg_gd2 _ _ _ _ _ _ _ rfl rfl rfl rfl rfl (fun hg => op_eql (.gd rfl hg) (.base rfl)) ?_
      refine jg_gd _ _ _ _ _ _ rfl rfl rfl rfl rfl (fun hg => op_pick_or (.gd rfl hg) (.base rfl) rfl (by intro h; first | (rw [h]; rfl) | simp_all)) ?_
      refine jg_adr _ rfl _ rfl rfl (op_pick_and (.base rfl) (.base rfl) rfl (by intro h; first | (rw [h]; rfl) | simp_all)) ?_
      refine jg_os _ rfl (op_ostore ty36 (.base rfl) rfl rfl (Lens.id _) (.tv (.base rfl))) ?_
      refine jg_adr _ rfl _ rfl rfl (op_assign (.base rfl)) ?_
      refine jg_nil ?_
      refine jn_keep [6, 7] [6] (.cons rfl (.cons rfl .nil)) (.cons rfl .nil) ?_
      refine jn_seq (j_ret (jr_blk (jr_seq ?_)))
      exact jr_fin2 Try.results77 (res_cell ty36 rfl rfl rfl (Lens.id rType)) (res_tmp rfl) ⟨rfl, rfl⟩ (svB_eq (by subst_vars; first | rfl | (simp [scaledT]; done) | (simp [scaledT, *]; done) | (unfold scaledT; (repeat' split) <;> first | rfl | omega | (simp_all; done) | (simp_all; omega) | (simp_all [allowedM]; done) | (simp_all [allowedM]; omega))))
    · try simp at h4
      refine j_skip (jn_blk (jn_seq (j_seq (j_seq ?_))))
      refine j_region ?_
      refine jg_adr _ rfl _ rfl rfl (op_move (.base rfl)) ?_
      refine jg_adr _ rfl _ rfl rfl (op_eql (.base rfl) (.base rfl)) ?_
      refine jg_adr _ rfl _ rfl rfl (op_move (.base rfl)) ?_
      refine jg_gd _ _ _ _ _ _ rfl rfl rfl rfl rfl (fun hg => op_move (.base rfl)) ?_
      refine jg_gd _ _ _ _ _ _ rfl rfl rfl rfl rfl (fun hg => op_eql (.gd rfl hg) (.base rfl)) ?_
      refine jg_adr _ rfl _ rfl rfl (op_pick_and (.base rfl) (.base rfl) rfl (by intro h; first | (rw [h]; rfl) | simp_all)) ?_
      refine jg_nil ?_
      refine jn_keep [1, 2, 6, 42] [6] (.cons rfl (.cons rfl (.cons rfl (.cons rfl .nil)))) (.cons rfl .nil) ?_
      refine jn_seq ?_
      refine j_cond rfl (fun h6 => ?_) (fun h6 => ?_)
      · try simp at h6
        refine j_seq ?_
        refine j_region ?_
        refine jg_adr _ rfl _ rfl rfl (op_call (rkind_ok _) (.cons (.base rfl) .nil) rfl rfl) ?_
        refine jg_os _ rfl (op_ostore ty36 (.base rfl) rfl rfl (Lens.id _) (.tv (.base rfl))) ?_
        refine jg_adr _ rfl _ rfl rfl (op_assign (.base rfl)) ?_
        refine jg_nil ?_
        refine jn_keep [6, 7] [6] (.cons rfl (.cons rfl .nil)) (.cons rfl .nil) ?_
        refine jn_seq (j_ret (jr_seq ?_))
        exact jr_fin2 Try.results77 (res_cell ty36 rfl rfl rfl (Lens.id rType)) (res_tmp rfl) ⟨rfl, rfl⟩ (svB_eq (by subst_vars; first | rfl | (simp [scaledT]; done) | (simp [scaledT, *]; done) | (unfold scaledT; (repeat' split) <;> first | rfl | omega | (simp_all; done) | (simp_all; omega) | (simp_all [allowedM]; done) | (simp_all [allowedM]; omega))))
      · try simp at h6
        refine j_skip (jn_seq (j_seq ?_))
        refine j_region ?_
        refine jg_adr _ rfl _ rfl rfl (op_move (.base rfl)) ?_
        refine jg_adr _ rfl _ rfl rfl (op_call (rkind_ok _) (.cons (.base rfl) .nil) rfl rfl) ?_
        refine jg_adr _ rfl _ rfl rfl (op_move (.base rfl)) ?_
        refine jg_adr _ rfl _ rfl rfl (op_eql (.base rfl) (.base rfl)) ?_
        refine jg_adr _ rfl _ rfl rfl (op_move (.base rfl)) ?_
        refine jg_gd _ _ _ _ _ _ rfl rfl rfl rfl rfl (fun hg => op_move (.base rfl)) ?_
        refine jg_gd _ _ _ _ _ _ rfl rfl rfl rfl rfl (fun hg => op_eql (.gd rfl hg) (.base rfl)) ?_
        refine jg_gd _ _ _ _ _ _ rfl rfl rfl rfl rfl (fun hg => op_move (.gd rfl hg)) ?_
        refine jg_gd2 _ _ _ _ _ _ _ rfl rfl rfl rfl rfl (fun hg => op_move (.base rfl)) ?_
        refine jg_gd2 _ _ _ _ _ _ _ rfl rfl rfl rfl rfl (fun hg => op_eql (.gd rfl hg) (.base rfl)) ?_
        refine jg_gd _ _ _ _ _ _ rfl rfl rfl rfl rfl (fun hg => op_pick_or (.gd rfl hg) (.base rfl) rfl (by intro h; first | (rw [h]; rfl) | simp_all)) ?_
        refine jg_adr _ rfl _ rfl rfl (op_pick_and (.base rfl) (.base rfl) rfl (by intro h; first | (rw [h]; rfl) | simp_all)) ?_
        refine jg_os _ rfl (op_ostore ty36 (.base rfl) rfl rfl (Lens.id _) (.tv (.base rfl))) ?_
        refine jg_adr _ rfl _ rfl rfl (op_assign (.base rfl)) ?_
        refine jg_nil ?_
        refine jn_keep [6, 7] [6] (.cons rfl (.cons rfl .nil)) (.cons rfl .nil) ?_
        refine jn_seq (j_ret ?_)
        exact jr_fin2 Try.results77 (res_cell ty36 rfl rfl rfl (Lens.id rType)) (res_tmp rfl) ⟨rfl, rfl⟩ (svB_eq (by subst_vars; first | rfl | (simp [scaledT]; done) | (simp [scaledT, *]; done) | (unfold scaledT; (repeat' split) <;> first | rfl | omega | (simp_all; done) | (simp_all; omega) | (simp_all [allowedM]; done) | (simp_all [allowedM]; omega))))

theorem double_ok (n : Int) (a b : TType) : Ct Try.prog 60 [.raw (.int .i64 n), .tv rType a, .tv rType b] (svB (doubleT n a b)) := by
  refine ct_intro Try.func60 rfl rfl Try.ntmps60 rfl rfl ?_
  intro w0 ok0
  refine j_seq ?_
  refine j_region ?_
  refine jg_os _ rfl (op_box (.tv (.base rfl)) rfl rfl rfl) ?_
  refine jg_os _ rfl (op_box (.tv (.base rfl)) rfl rfl rfl) ?_
  refine jg_os _ rfl (op_alloc _ z36 rfl rfl rfl) ?_
  refine jg_adr _ rfl _ rfl rfl (op_assign (.base rfl)) ?_
  refine jg_nil ?_
  refine jn_keep [0, 4, 5, 6] [4, 5, 6] (.cons rfl (.cons rfl (.cons rfl (.cons rfl .nil)))) (.cons rfl (.cons rfl (.cons rfl .nil))) ?_
  refine jn_seq (j_seq (j_seq ?_))
  refine j_region ?_
  refine jg_adr _ rfl _ rfl rfl (op_move (.base rfl)) ?_
  refine jg_nil ?_
  refine jn_keep [0, 4, 5, 6, 8] [4, 5, 6] (.cons rfl (.cons rfl (.cons rfl (.cons rfl (.cons rfl .nil))))) (.cons rfl (.cons rfl (.cons rfl .nil))) ?_
  refine jn_seq (j_block (j_seq (j_seq ?_)))
  refine j_region ?_
  refine jg_adr _ rfl _ rfl rfl (op_eql (.base rfl) (.base rfl)) ?_
  refine jg_adr _ rfl _ rfl rfl (op_assign (.base rfl)) ?_
  refine jg_nil ?_
  refine jn_keep [0, 4, 5, 6, 8, 9] [4, 5, 6] (.cons rfl (.cons rfl (.cons rfl (.cons rfl (.cons rfl (.cons rfl .nil)))))) (.cons rfl (.cons rfl (.cons rfl .nil))) ?_
  refine jn_seq ?_
  refine j_cond rfl (fun h2 => ?_) (fun h2 => ?_)
  · have g2 := h2; try simp at h2
    refine j_skip (jn_seq ?_)
    refine j_cond_t rfl g2 (j_seq ?_)
    refine j_drawE mo (by kernel_rfl) (
      AE.cons _ _ _ rfl (gh_ga [4] (ga_adr rfl rfl rfl (op_oload ty36 (.base rfl) rfl rfl (Lens.id _))) (by kernel_rfl)) (
      AE.cons _ _ _ rfl (gh_ga [4] (ga_adr rfl rfl rfl (op_oload ty36 (.base rfl) rfl rfl (Lens.id _))) (by kernel_rfl)) (
      AE.cons _ _ _ rfl (gh_ga [5] (ga_adr rfl rfl rfl (op_oload ty36 (.base rfl) rfl rfl (Lens.id _))) (by kernel_rfl)) (
      AE.cons _ _ _ rfl (gh_ga [] (ga_adr rfl rfl rfl (op_seql eq36 rfl rfl eg36 (.tv (.base rfl)) (.tv (.base rfl)))) (by kernel_rfl)) (
      AE.cons _ _ _ rfl (gh_ga [] (ga_adr rfl rfl rfl (op_move (.base rfl))) (by kernel_rfl)) (
      AE.cons _ _ _ rfl (gh_ga [4] (ga_gd _ _ _ _ rfl rfl rfl rfl rfl (fun hg => op_ofield fld36_0 (.base rfl))) (by kernel_rfl)) (
      AE.cons _ _ _ rfl (gh_ga [4] (ga_gd _ _ _ _ rfl rfl rfl rfl rfl (fun hg => op_oload ty3 (.gd rfl hg) rfl rfl ln36_0)) (by kernel_rfl)) (
      AE.cons _ _ _ rfl (gh_ga [] (ga_gd _ _ _ _ rfl rfl rfl rfl rfl (fun hg => op_call (number_ok _) (.cons (.gd rfl hg) .nil) rfl rfl)) (by kernel_rfl)) (
      AE.cons _ _ _ rfl (gh_ga [] (ga_adr rfl rfl rfl (op_pick_and (.base rfl) (.base rfl) rfl (by intro h; first | (rw [h]; rfl) | simp_all))) (by kernel_rfl)) (
      AE.cons _ _ _ rfl (gh_store ty36 (.base rfl) rfl rfl (Lens.id _) (.tv (.base rfl))) (
      AE.cons _ _ _ rfl (gh_ga [] (ga_adr rfl rfl rfl (op_assign (.base rfl))) (by kernel_rfl)) (
      AE.nil)))))))))))) (by kernel_rfl) ?_
    refine jn_keep [6, 7] [6] (.cons rfl (.cons rfl .nil)) (.cons rfl .nil) ?_
    refine jn_seq (j_ret (jr_blk (jr_seq ?_)))
    exact jr_fin2 Try.results60 (res_cell ty36 rfl rfl rfl (Lens.id rType)) (res_tmp rfl) ⟨rfl, rfl⟩ (svB_eq (by subst_vars; first | rfl | (simp [doubleT]; done) | (simp [doubleT, *]; done) | (unfold doubleT; (repeat' split) <;> first | rfl | omega | (simp_all; done) | (simp_all; omega) | (simp_all [allowedM]; done) | (simp_all [allowedM]; omega))))
  · have g2 := h2; try simp at h2
    refine j_region ?_
    refine jg_adr _ rfl _ rfl rfl (op_eql (.base rfl) (.base rfl)) ?_
    refine jg_adr _ rfl _ rfl rfl (op_assign (.base rfl)) ?_
    refine jg_nil ?_
    refine jn_keep [0, 4, 5, 6, 8, 9] [4, 5, 6] (.cons rfl (.cons rfl (.cons rfl (.cons rfl (.cons rfl (.cons rfl .nil)))))) (.cons rfl (.cons rfl (.cons rfl .nil))) ?_
    refine jn_seq ?_
    refine j_cond rfl (fun h3 => ?_) (fun h3 => ?_)
    · have g3 := h3; try simp at h3
      refine j_seq ?_
      refine j_drawE mo (by kernel_rfl) (
        AE.cons _ _ _ rfl (gh_ga [4] (ga_adr rfl rfl rfl (op_oload ty36 (.base rfl) rfl rfl (Lens.id _))) (by kernel_rfl)) (
        AE.cons _ _ _ rfl (gh_ga [4] (ga_adr rfl rfl rfl (op_oload ty36 (.base rfl) rfl rfl (Lens.id _))) (by kernel_rfl)) (
        AE.cons _ _ _ rfl (gh_ga [5] (ga_adr rfl rfl rfl (op_oload ty36 (.base rfl) rfl rfl (Lens.id _))) (by kernel_rfl)) (
        AE.cons _ _ _ rfl (gh_ga [] (ga_adr rfl rfl rfl (op_seql eq36 rfl rfl eg36 (.tv (.base rfl)) (.tv (.base rfl)))) (by kernel_rfl)) (
        AE.cons _ _ _ rfl (gh_ga [] (ga_adr rfl rfl rfl (op_move (.base rfl))) (by kernel_rfl)) (
        AE.cons _ _ _ rfl (gh_ga [4] (ga_gd _ _ _ _ rfl rfl rfl rfl rfl (fun hg => op_ofield fld36_0 (.base rfl))) (by kernel_rfl)) (
        AE.cons _ _ _ rfl (gh_ga [4] (ga_gd _ _ _ _ rfl rfl rfl rfl rfl (fun hg => op_oload ty3 (.gd rfl hg) rfl rfl ln36_0)) (by kernel_rfl)) (
        AE.cons _ _ _ rfl (gh_ga [] (ga_gd _ _ _ _ rfl rfl rfl rfl rfl (fun hg => op_call (number_ok _) (.cons (.gd rfl hg) .nil) rfl rfl)) (by kernel_rfl)) (
        AE.cons _ _ _ rfl (gh_ga [] (ga_adr rfl rfl rfl (op_pick_and (.base rfl) (.base rfl) rfl (by intro h; first | (rw [h]; rfl) | simp_all))) (by kernel_rfl)) (
        AE.cons _ _ _ rfl (gh_store ty36 (.base rfl) rfl rfl (Lens.id _) (.tv (.base rfl))) (
        AE.cons _ _ _ rfl (gh_ga [] (ga_adr rfl rfl rfl (op_assign (.base rfl))) (by kernel_rfl)) (
        AE.nil)))))))))))) (by kernel_rfl) ?_
      refine jn_keep [6, 7] [6] (.cons rfl (.cons rfl .nil)) (.cons rfl .nil) ?_
      refine jn_seq (j_ret (jr_blk (jr_seq ?_)))
      exact jr_fin2 Try.results60 (res_cell ty36 rfl rfl rfl (Lens.id rType)) (res_tmp rfl) ⟨rfl, rfl⟩ (svB_eq (by subst_vars; first | rfl | (simp [doubleT]; done) | (simp [doubleT, *]; done) | (unfold doubleT; (repeat' split) <;> first | rfl | omega | (simp_all; done) | (simp_all; omega) | (simp_all [allowedM]; done) | (simp_all [allowedM]; omega))))
    · have g3 := h3; try simp at h3
      refine j_seq (j_seq ?_)
      refine j_region ?_
      refine jg_adr _ rfl _ rfl rfl (op_eql (.base rfl) (.base rfl)) ?_
      refine jg_adr _ rfl _ rfl rfl (op_assign (.base rfl)) ?_
      refine jg_nil ?_
      refine jn_keep [0, 4, 5, 6, 8, 21] [4, 5, 6] (.cons rfl (.cons rfl (.cons rfl (.cons rfl (.cons rfl (.cons rfl .nil)))))) (.cons rfl (.cons rfl (.cons rfl .nil))) ?_
      refine jn_seq ?_
      refine j_cond rfl (fun h5 => ?_) (fun h5 => ?_)
      · have g5 := h5; try simp at h5
        refine j_skip (jn_seq ?_)
        refine j_cond_t rfl g5 (j_seq ?_)
        refine j_region ?_
        refine jg_adr _ rfl _ rfl rfl (op_move (.base rfl)) ?_
        refine jg_adr _ rfl _ rfl rfl (op_ofield fld36_0 (.base rfl)) ?_
        refine jg_adr _ rfl _ rfl rfl (op_oload ty3 (.base rfl) rfl rfl ln36_0) ?_
        refine jg_adr _ rfl _ rfl rfl (op_ofield fld36_0 (.base rfl)) ?_
        refine jg_adr _ rfl _ rfl rfl (op_oload ty3 (.base rfl) rfl rfl ln36_0) ?_
        refine jg_adr _ rfl _ rfl rfl (op_call (scaled_ok _ _ _) (.cons (.base rfl) (.cons (.base rfl) (.cons (.base rfl) .nil))) rfl rfl) ?_
        refine jg_adr _ rfl _ rfl rfl (op_ext20 (.base rfl)) ?_
        refine jg_adr _ rfl _ rfl rfl (op_ext21 (.base rfl)) ?_
        refine jg_os _ rfl (op_ostore ty36 (.base rfl) rfl rfl (Lens.id _) (.tv (.base rfl))) ?_
        refine jg_adr _ rfl _ rfl rfl (op_assign (.base rfl)) ?_
        refine jg_nil ?_
        refine jn_keep [6, 7] [6] (.cons rfl (.cons rfl .nil)) (.cons rfl .nil) ?_
        refine jn_seq (j_ret (jr_blk (jr_seq ?_)))
        exact jr_fin2 Try.results60 (res_cell ty36 rfl rfl rfl (Lens.id rType)) (res_tmp rfl) ⟨rfl, rfl⟩ (svB_eq (by subst_vars; first | rfl | (simp [doubleT]; done) | (simp [doubleT, *]; done) | (unfold doubleT; (repeat' split) <;> first | rfl | omega | (simp_all; done) | (simp_all; omega) | (simp_all [allowedM]; done) | (simp_all [allowedM]; omega))))
      · have g5 := h5; try simp at h5
        refine j_seq ?_
        refine j_region ?_
        refine jg_adr _ rfl _ rfl rfl (op_eql (.base rfl) (.base rfl)) ?_
        refine jg_adr _ rfl _ rfl rfl (op_assign (.base rfl)) ?_
        refine jg_nil ?_
        refine jn_keep [0, 4, 5, 6, 8, 21] [4, 5, 6] (.cons rfl (.cons rfl (.cons rfl (.cons rfl (.cons rfl (.cons rfl .nil)))))) (.cons rfl (.cons rfl (.cons rfl .nil))) ?_
        refine jn_seq ?_
        refine j_cond rfl (fun h6 => ?_) (fun h6 => ?_)
        · have g6 := h6; try simp at h6
          refine j_skip (jn_seq ?_)
          refine j_cond_t rfl g6 (j_seq ?_)
          refine j_region ?_
          refine jg_adr _ rfl _ rfl rfl (op_move (.base rfl)) ?_
          refine jg_adr _ rfl _ rfl rfl (op_ofield fld36_0 (.base rfl)) ?_
          refine jg_adr _ rfl _ rfl rfl (op_oload ty3 (.base rfl) rfl rfl ln36_0) ?_
          refine jg_adr _ rfl _ rfl rfl (op_ofield fld36_0 (.base rfl)) ?_
          refine jg_adr _ rfl _ rfl rfl (op_oload ty3 (.base rfl) rfl rfl ln36_0) ?_
          refine jg_adr _ rfl _ rfl rfl (op_call (scaled_ok _ _ _) (.cons (.base rfl) (.cons (.base rfl) (.cons (.base rfl) .nil))) rfl rfl) ?_
          refine jg_adr _ rfl _ rfl rfl (op_ext20 (.base rfl)) ?_
          refine jg_adr _ rfl _ rfl rfl (op_ext21 (.base rfl)) ?_
          refine jg_os _ rfl (op_ostore ty36 (.base rfl) rfl rfl (Lens.id _) (.tv (.base rfl))) ?_
          refine jg_adr _ rfl _ rfl rfl (op_assign (.base rfl)) ?_
          refine jg_nil ?_
          refine jn_keep [6, 7] [6] (.cons rfl (.cons rfl .nil)) (.cons rfl .nil) ?_
          refine jn_seq (j_ret (jr_blk (jr_seq ?_)))
          exact jr_fin2 Try.results60 (res_cell ty36 rfl rfl rfl (Lens.id rType)) (res_tmp rfl) ⟨rfl, rfl⟩ (svB_eq (by subst_vars; first | rfl | (simp [doubleT]; done) | (simp [doubleT, *]; done) | (unfold doubleT; (repeat' split) <;> first | rfl | omega | (simp_all; done) | (simp_all; omega) | (simp_all [allowedM]; done) | (simp_all [allowedM]; omega))))
        · have g6 := h6; try simp at h6
          refine j_region ?_
          refine jg_adr _ rfl _ rfl rfl (op_eql (.base rfl) (.base rfl)) ?_
          refine jg_adr _ rfl _ rfl rfl (op_assign (.base rfl)) ?_
          refine jg_nil ?_
          refine jn_keep [0, 4, 5, 6, 8, 21] [4, 5, 6] (.cons rfl (.cons rfl (.cons rfl (.cons rfl (.cons rfl (.cons rfl .nil)))))) (.cons rfl (.cons rfl (.cons rfl .nil))) ?_
          refine jn_seq ?_
          refine j_cond rfl (fun h7 => ?_) (fun h7 => ?_)
          · have g7 := h7; try simp at h7
            refine j_seq ?_
            refine j_region ?_
            refine jg_adr _ rfl _ rfl rfl (op_move (.base rfl)) ?_
            refine jg_adr _ rfl _ rfl rfl (op_ofield fld36_0 (.base rfl)) ?_
            refine jg_adr _ rfl _ rfl rfl (op_oload ty3 (.base rfl) rfl rfl ln36_0) ?_
            refine jg_adr _ rfl _ rfl rfl (op_ofield fld36_0 (.base rfl)) ?_
            refine jg_adr _ rfl _ rfl rfl (op_oload ty3 (.base rfl) rfl rfl ln36_0) ?_
            refine jg_adr _ rfl _ rfl rfl (op_call (scaled_ok _ _ _) (.cons (.base rfl) (.cons (.base rfl) (.cons (.base rfl) .nil))) rfl rfl) ?_
            refine jg_adr _ rfl _ rfl rfl (op_ext20 (.base rfl)) ?_
            refine jg_adr _ rfl _ rfl rfl (op_ext21 (.base rfl)) ?_
            refine jg_os _ rfl (op_ostore ty36 (.base rfl) rfl rfl (Lens.id _) (.tv (.base rfl))) ?_
            refine jg_adr _ rfl _ rfl rfl (op_assign (.base rfl)) ?_
            refine jg_nil ?_
            refine jn_keep [6, 7] [6] (.cons rfl (.cons rfl .nil)) (.cons rfl .nil) ?_
            refine jn_seq (j_ret (jr_blk (jr_seq ?_)))
            exact jr_fin2 Try.results60 (res_cell ty36 rfl rfl rfl (Lens.id rType)) (res_tmp rfl) ⟨rfl, rfl⟩ (svB_eq (by subst_vars; first | rfl | (simp [doubleT]; done) | (simp [doubleT, *]; done) | (unfold doubleT; (repeat' split) <;> first | rfl | omega | (simp_all; done) | (simp_all; omega) | (simp_all [allowedM]; done) | (simp_all [allowedM]; omega))))
          · have g7 := h7; try simp at h7
            refine j_seq ?_
            refine j_region ?_
            refine jg_adr _ rfl _ rfl rfl (op_eql (.base rfl) (.base rfl)) ?_
            refine jg_adr _ rfl _ rfl rfl (op_assign (.base rfl)) ?_
            refine jg_nil ?_
            refine jn_keep [4, 5, 6, 8, 33] [4, 5, 6] (.cons rfl (.cons rfl (.cons rfl (.cons rfl (.cons rfl .nil))))) (.cons rfl (.cons rfl (.cons rfl .nil))) ?_
            refine jn_seq ?_
            refine j_cond rfl (fun h9 => ?_) (fun h9 => ?_)
            · try simp at h9
              refine j_seq ?_
              refine j_drawE mo (by kernel_rfl) (
                AE.cons _ _ _ rfl (gh_ga [4] (ga_adr rfl rfl rfl (op_oload ty36 (.base rfl) rfl rfl (Lens.id _))) (by kernel_rfl)) (
                AE.cons _ _ _ rfl (gh_ga [4] (ga_adr rfl rfl rfl (op_ofield fld36_0 (.base rfl))) (by kernel_rfl)) (
                AE.cons _ _ _ rfl (gh_ga [4] (ga_adr rfl rfl rfl (op_oload ty3 (.base rfl) rfl rfl ln36_0)) (by kernel_rfl)) (
                AE.cons _ _ _ rfl (gh_ga [] (ga_adr rfl rfl rfl (op_eql (.base rfl) (.base rfl))) (by kernel_rfl)) (
                AE.cons _ _ _ rfl (gh_ga [] (ga_adr rfl rfl rfl (op_move (.base rfl))) (by kernel_rfl)) (
                AE.cons _ _ _ rfl (gh_ga [5] (ga_gd _ _ _ _ rfl rfl rfl rfl rfl (fun hg => op_ofield fld36_0 (.base rfl))) (by kernel_rfl)) (
                AE.cons _ _ _ rfl (gh_ga [5] (ga_gd _ _ _ _ rfl rfl rfl rfl rfl (fun hg => op_oload ty3 (.gd rfl hg) rfl rfl ln36_0)) (by kernel_rfl)) (
                AE.cons _ _ _ rfl (gh_ga [] (ga_gd _ _ _ _ rfl rfl rfl rfl rfl (fun hg => op_eql (.gd rfl hg) (.base rfl))) (by kernel_rfl)) (
                AE.cons _ _ _ rfl (gh_ga [] (ga_adr rfl rfl rfl (op_pick_and (.base rfl) (.base rfl) rfl (by intro h; first | (rw [h]; rfl) | simp_all))) (by kernel_rfl)) (
                AE.cons _ _ _ rfl (gh_store ty36 (.base rfl) rfl rfl (Lens.id _) (.tv (.base rfl))) (
                AE.cons _ _ _ rfl (gh_ga [] (ga_adr rfl rfl rfl (op_assign (.base rfl))) (by kernel_rfl)) (
                AE.nil)))))))))))) (by kernel_rfl) ?_
              refine jn_keep [6, 7] [6] (.cons rfl (.cons rfl .nil)) (.cons rfl .nil) ?_
              refine jn_seq (j_ret (jr_blk (jr_seq ?_)))
              exact jr_fin2 Try.results60 (res_cell ty36 rfl rfl rfl (Lens.id rType)) (res_tmp rfl) ⟨rfl, rfl⟩ (svB_eq (by subst_vars; first | rfl | (simp [doubleT]; done) | (simp [doubleT, *]; done) | (unfold doubleT; (repeat' split) <;> first | rfl | omega | (simp_all; done) | (simp_all; omega) | (simp_all [allowedM]; done) | (simp_all [allowedM]; omega))))
            · try simp at h9
              refine j_seq (j_seq ?_)
              refine j_region ?_
              refine jg_adr _ rfl _ rfl rfl (op_eql (.base rfl) (.base rfl)) ?_
              refine jg_adr _ rfl _ rfl rfl (op_assign (.base rfl)) ?_
              refine jg_nil ?_
              refine jn_keep [4, 5, 6, 8, 44] [4, 5, 6] (.cons rfl (.cons rfl (.cons rfl (.cons rfl (.cons rfl .nil))))) (.cons rfl (.cons rfl (.cons rfl .nil))) ?_
              refine jn_seq ?_
              refine j_cond rfl (fun h11 => ?_) (fun h11 => ?_)
              · have g11 := h11; try simp at h11
                refine j_skip (jn_seq ?_)
                refine j_cond_t rfl g11 (j_seq ?_)
                refine j_drawE mo (by kernel_rfl) (
                  AE.cons _ _ _ rfl (gh_ga [4] (ga_adr rfl rfl rfl (op_oload ty36 (.base rfl) rfl rfl (Lens.id _))) (by kernel_rfl)) (
                  AE.cons _ _ _ rfl (gh_ga [4] (ga_adr rfl rfl rfl (op_oload ty36 (.base rfl) rfl rfl (Lens.id _))) (by kernel_rfl)) (
                  AE.cons _ _ _ rfl (gh_ga [5] (ga_adr rfl rfl rfl (op_oload ty36 (.base rfl) rfl rfl (Lens.id _))) (by kernel_rfl)) (
                  AE.cons _ _ _ rfl (gh_ga [] (ga_adr rfl rfl rfl (op_seql eq36 rfl rfl eg36 (.tv (.base rfl)) (.tv (.base rfl)))) (by kernel_rfl)) (
                  AE.cons _ _ _ rfl (gh_ga [] (ga_adr rfl rfl rfl (op_move (.base rfl))) (by kernel_rfl)) (
                  AE.cons _ _ _ rfl (gh_ga [4] (ga_gd _ _ _ _ rfl rfl rfl rfl rfl (fun hg => op_ofield fld36_0 (.base rfl))) (by kernel_rfl)) (
                  AE.cons _ _ _ rfl (gh_ga [4] (ga_gd _ _ _ _ rfl rfl rfl rfl rfl (fun hg => op_oload ty3 (.gd rfl hg) rfl rfl ln36_0)) (by kernel_rfl)) (
                  AE.cons _ _ _ rfl (gh_ga [] (ga_gd _ _ _ _ rfl rfl rfl rfl rfl (fun hg => op_call (ordered_ok _) (.cons (.gd rfl hg) .nil) rfl rfl)) (by kernel_rfl)) (
                  AE.cons _ _ _ rfl (gh_ga [] (ga_adr rfl rfl rfl (op_pick_and (.base rfl) (.base rfl) rfl (by intro h; first | (rw [h]; rfl) | simp_all))) (by kernel_rfl)) (
                  AE.cons _ _ _ rfl (gh_store ty36 (.base rfl) rfl rfl (Lens.id _) (.tv (.base rfl))) (
                  AE.cons _ _ _ rfl (gh_ga [] (ga_adr rfl rfl rfl (op_assign (.base rfl))) (by kernel_rfl)) (
                  AE.nil)))))))))))) (by kernel_rfl) ?_
                refine jn_keep [6, 7] [6] (.cons rfl (.cons rfl .nil)) (.cons rfl .nil) ?_
                refine jn_seq (j_ret (jr_blk (jr_seq ?_)))
                exact jr_fin2 Try.results60 (res_cell ty36 rfl rfl rfl (Lens.id rType)) (res_tmp rfl) ⟨rfl, rfl⟩ (svB_eq (by subst_vars; first | rfl | (simp [doubleT]; done) | (simp [doubleT, *]; done) | (unfold doubleT; (repeat' split) <;> first | rfl | omega | (simp_all; done) | (simp_all; omega) | (simp_all [allowedM]; done) | (simp_all [allowedM]; omega))))
              · have g11 := h11; try simp at h11
                refine j_region ?_
                refine jg_adr _ rfl _ rfl rfl (op_eql (.base rfl) (.base rfl)) ?_
                refine jg_adr _ rfl _ rfl rfl (op_assign (.base rfl)) ?_
                refine jg_nil ?_
                refine jn_keep [4, 5, 6, 8, 44] [4, 5, 6] (.cons rfl (.cons rfl (.cons rfl (.cons rfl (.cons rfl .nil))))) (.cons rfl (.cons rfl (.cons rfl .nil))) ?_
                refine jn_seq ?_
                refine j_cond rfl (fun h12 => ?_) (fun h12 => ?_)
                · have g12 := h12; try simp at h12
                  refine j_seq ?_
                  refine j_drawE mo (by kernel_rfl) (
                    AE.cons _ _ _ rfl (gh_ga [4] (ga_adr rfl rfl rfl (op_oload ty36 (.base rfl) rfl rfl (Lens.id _))) (by kernel_rfl)) (
                    AE.cons _ _ _ rfl (gh_ga [4] (ga_adr rfl rfl rfl (op_oload ty36 (.base rfl) rfl rfl (Lens.id _))) (by kernel_rfl)) (
                    AE.cons _ _ _ rfl (gh_ga [5] (ga_adr rfl rfl rfl (op_oload ty36 (.base rfl) rfl rfl (Lens.id _))) (by kernel_rfl)) (
                    AE.cons _ _ _ rfl (gh_ga [] (ga_adr rfl rfl rfl (op_seql eq36 rfl rfl eg36 (.tv (.base rfl)) (.tv (.base rfl)))) (by kernel_rfl)) (
                    AE.cons _ _ _ rfl (gh_ga [] (ga_adr rfl rfl rfl (op_move (.base rfl))) (by kernel_rfl)) (
                    AE.cons _ _ _ rfl (gh_ga [4] (ga_gd _ _ _ _ rfl rfl rfl rfl rfl (fun hg => op_ofield fld36_0 (.base rfl))) (by kernel_rfl)) (
                    AE.cons _ _ _ rfl (gh_ga [4] (ga_gd _ _ _ _ rfl rfl rfl rfl rfl (fun hg => op_oload ty3 (.gd rfl hg) rfl rfl ln36_0)) (by kernel_rfl)) (
                    AE.cons _ _ _ rfl (gh_ga [] (ga_gd _ _ _ _ rfl rfl rfl rfl rfl (fun hg => op_call (ordered_ok _) (.cons (.gd rfl hg) .nil) rfl rfl)) (by kernel_rfl)) (
                    AE.cons _ _ _ rfl (gh_ga [] (ga_adr rfl rfl rfl (op_pick_and (.base rfl) (.base rfl) rfl (by intro h; first | (rw [h]; rfl) | simp_all))) (by kernel_rfl)) (
                    AE.cons _ _ _ rfl (gh_store ty36 (.base rfl) rfl rfl (Lens.id _) (.tv (.base rfl))) (
                    AE.cons _ _ _ rfl (gh_ga [] (ga_adr rfl rfl rfl (op_assign (.base rfl))) (by kernel_rfl)) (
                    AE.nil)))))))))))) (by kernel_rfl) ?_
                  refine jn_keep [6, 7] [6] (.cons rfl (.cons rfl .nil)) (.cons rfl .nil) ?_
                  refine jn_seq (j_ret (jr_blk (jr_seq ?_)))
                  exact jr_fin2 Try.results60 (res_cell ty36 rfl rfl rfl (Lens.id rType)) (res_tmp rfl) ⟨rfl, rfl⟩ (svB_eq (by subst_vars; first | rfl | (simp [doubleT]; done) | (simp [doubleT, *]; done) | (unfold doubleT; (repeat' split) <;> first | rfl | omega | (simp_all; done) | (simp_all; omega) | (simp_all [allowedM]; done) | (simp_all [allowedM]; omega))))
                · have g12 := h12; try simp at h12
                  refine j_seq (j_seq ?_)
                  refine j_region ?_
                  refine jg_adr _ rfl _ rfl rfl (op_eql (.base rfl) (.base rfl)) ?_
                  refine jg_adr _ rfl _ rfl rfl (op_assign (.base rfl)) ?_
                  refine jg_nil ?_
                  refine jn_keep [4, 5, 6, 8, 56] [4, 5, 6] (.cons rfl (.cons rfl (.cons rfl (.cons rfl (.cons rfl .nil))))) (.cons rfl (.cons rfl (.cons rfl .nil))) ?_
                  refine jn_seq ?_
                  refine j_cond rfl (fun h14 => ?_) (fun h14 => ?_)
                  · have g14 := h14; try simp at h14
                    refine j_skip (jn_seq ?_)
                    refine j_cond_t rfl g14 (j_seq ?_)
                    refine j_drawE mo (by kernel_rfl) (
                      AE.cons _ _ _ rfl (gh_ga [] (ga_adr rfl rfl rfl (op_call (rkind_ok _) (.cons (.base rfl) .nil) rfl rfl)) (by kernel_rfl)) (
                      AE.cons _ _ _ rfl (gh_ga [4] (ga_adr rfl rfl rfl (op_oload ty36 (.base rfl) rfl rfl (Lens.id _))) (by kernel_rfl)) (
                      AE.cons _ _ _ rfl (gh_ga [5] (ga_adr rfl rfl rfl (op_oload ty36 (.base rfl) rfl rfl (Lens.id _))) (by kernel_rfl)) (
                      AE.cons _ _ _ rfl (gh_ga [] (ga_adr rfl rfl rfl (op_seql eq36 rfl rfl eg36 (.tv (.base rfl)) (.tv (.base rfl)))) (by kernel_rfl)) (
                      AE.cons _ _ _ rfl (gh_store ty36 (.base rfl) rfl rfl (Lens.id _) (.tv (.base rfl))) (
                      AE.cons _ _ _ rfl (gh_ga [] (ga_adr rfl rfl rfl (op_assign (.base rfl))) (by kernel_rfl)) (
                      AE.nil))))))) (by kernel_rfl) ?_
                    refine jn_keep [6, 7] [6] (.cons rfl (.cons rfl .nil)) (.cons rfl .nil) ?_
                    refine jn_seq (j_ret (jr_blk (jr_seq ?_)))
                    exact jr_fin2 Try.results60 (res_cell ty36 rfl rfl rfl (Lens.id rType)) (res_tmp rfl) ⟨rfl, rfl⟩ (svB_eq (by subst_vars; first | rfl | (simp [doubleT]; done) | (simp [doubleT, *]; done) | (unfold doubleT; (repeat' split) <;> first | rfl | omega | (simp_all; done) | (simp_all; omega) | (simp_all [allowedM]; done) | (simp_all [allowedM]; omega))))
                  · have g14 := h14; try simp at h14
                    refine j_region ?_
                    refine jg_adr _ rfl _ rfl rfl (op_eql (.base rfl) (.base rfl)) ?_
                    refine jg_adr _ rfl _ rfl rfl (op_assign (.base rfl)) ?_
                    refine jg_nil ?_
                    refine jn_keep [4, 5, 6, 8, 56] [4, 5, 6] (.cons rfl (.cons rfl (.cons rfl (.cons rfl (.cons rfl .nil))))) (.cons rfl (.cons rfl (.cons rfl .nil))) ?_
                    refine jn_seq ?_
                    refine j_cond rfl (fun h15 => ?_) (fun h15 => ?_)
                    · have g15 := h15; try simp at h15
                      refine j_seq ?_
                      refine j_drawE mo (by kernel_rfl) (
                        AE.cons _ _ _ rfl (gh_ga [] (ga_adr rfl rfl rfl (op_call (rkind_ok _) (.cons (.base rfl) .nil) rfl rfl)) (by kernel_rfl)) (
                        AE.cons _ _ _ rfl (gh_ga [4] (ga_adr rfl rfl rfl (op_oload ty36 (.base rfl) rfl rfl (Lens.id _))) (by kernel_rfl)) (
                        AE.cons _ _ _ rfl (gh_ga [5] (ga_adr rfl rfl rfl (op_oload ty36 (.base rfl) rfl rfl (Lens.id _))) (by kernel_rfl)) (
                        AE.cons _ _ _ rfl (gh_ga [] (ga_adr rfl rfl rfl (op_seql eq36 rfl rfl eg36 (.tv (.base rfl)) (.tv (.base rfl)))) (by kernel_rfl)) (
                        AE.cons _ _ _ rfl (gh_store ty36 (.base rfl) rfl rfl (Lens.id _) (.tv (.base rfl))) (
                        AE.cons _ _ _ rfl (gh_ga [] (ga_adr rfl rfl rfl (op_assign (.base rfl))) (by kernel_rfl)) (
                        AE.nil))))))) (by kernel_rfl) ?_
                      refine jn_keep [6, 7] [6] (.cons rfl (.cons rfl .nil)) (.cons rfl .nil) ?_
                      refine jn_seq (j_ret (jr_blk (jr_seq ?_)))
                      exact jr_fin2 Try.results60 (res_cell ty36 rfl rfl rfl (Lens.id rType)) (res_tmp rfl) ⟨rfl, rfl⟩ (svB_eq (by subst_vars; first | rfl | (simp [doubleT]; done) | (simp [doubleT, *]; done) | (unfold doubleT; (repeat' split) <;> first | rfl | omega | (simp_all; done) | (simp_all; omega) | (simp_all [allowedM]; done) | (simp_all [allowedM]; omega))))
                    · have g15 := h15; try simp at h15
                      refine j_seq (j_seq ?_)
                      refine j_region ?_
                      refine jg_adr _ rfl _ rfl rfl (op_eql (.base rfl) (.base rfl)) ?_
                      refine jg_adr _ rfl _ rfl rfl (op_assign (.base rfl)) ?_
                      refine jg_nil ?_
                      refine jn_keep [4, 5, 6, 8, 63] [4, 5, 6] (.cons rfl (.cons rfl (.cons rfl (.cons rfl (.cons rfl .nil))))) (.cons rfl (.cons rfl (.cons rfl .nil))) ?_
                      refine jn_seq ?_
                      refine j_cond rfl (fun h17 => ?_) (fun h17 => ?_)
                      · have g17 := h17; try simp at h17
                        refine j_skip (jn_seq ?_)
                        refine j_cond_t rfl g17 (j_seq ?_)
                        refine j_drawE mo (by kernel_rfl) (
                          AE.cons _ _ _ rfl (gh_ga [] (ga_adr rfl rfl rfl (op_call (rkind_ok _) (.cons (.base rfl) .nil) rfl rfl)) (by kernel_rfl)) (
                          AE.cons _ _ _ rfl (gh_ga [4] (ga_adr rfl rfl rfl (op_oload ty36 (.base rfl) rfl rfl (Lens.id _))) (by kernel_rfl)) (
                          AE.cons _ _ _ rfl (gh_ga [5] (ga_adr rfl rfl rfl (op_oload ty36 (.base rfl) rfl rfl (Lens.id _))) (by kernel_rfl)) (
                          AE.cons _ _ _ rfl (gh_ga [] (ga_adr rfl rfl rfl (op_seql eq36 rfl rfl eg36 (.tv (.base rfl)) (.tv (.base rfl)))) (by kernel_rfl)) (
                          AE.cons _ _ _ rfl (gh_ga [] (ga_adr rfl rfl rfl (op_move (.base rfl))) (by kernel_rfl)) (
                          AE.cons _ _ _ rfl (gh_ga [4] (ga_gd _ _ _ _ rfl rfl rfl rfl rfl (fun hg => op_ofield fld36_0 (.base rfl))) (by kernel_rfl)) (
                          AE.cons _ _ _ rfl (gh_ga [4] (ga_gd _ _ _ _ rfl rfl rfl rfl rfl (fun hg => op_oload ty3 (.gd rfl hg) rfl rfl ln36_0)) (by kernel_rfl)) (
                          AE.cons _ _ _ rfl (gh_ga [] (ga_gd _ _ _ _ rfl rfl rfl rfl rfl (fun hg => op_call (ordered_ok _) (.cons (.gd rfl hg) .nil) rfl rfl)) (by kernel_rfl)) (
                          AE.cons _ _ _ rfl (gh_ga [] (ga_adr rfl rfl rfl (op_pick_and (.base rfl) (.base rfl) rfl (by intro h; first | (rw [h]; rfl) | simp_all))) (by kernel_rfl)) (
                          AE.cons _ _ _ rfl (gh_store ty36 (.base rfl) rfl rfl (Lens.id _) (.tv (.base rfl))) (
                          AE.cons _ _ _ rfl (gh_ga [] (ga_adr rfl rfl rfl (op_assign (.base rfl))) (by kernel_rfl)) (
                          AE.nil)))))))))))) (by kernel_rfl) ?_
                        refine jn_keep [6, 7] [6] (.cons rfl (.cons rfl .nil)) (.cons rfl .nil) ?_
                        refine jn_seq (j_ret (jr_blk (jr_seq ?_)))
                        exact jr_fin2 Try.results60 (res_cell ty36 rfl rfl rfl (Lens.id rType)) (res_tmp rfl) ⟨rfl, rfl⟩ (svB_eq (by subst_vars; first | rfl | (simp [doubleT]; done) | (simp [doubleT, *]; done) | (unfold doubleT; (repeat' split) <;> first | rfl | omega | (simp_all; done) | (simp_all; omega) | (simp_all [allowedM]; done) | (simp_all [allowedM]; omega))))
                      · have g17 := h17; try simp at h17
                        refine j_region ?_
                        refine jg_adr _ rfl _ rfl rfl (op_eql (.base rfl) (.base rfl)) ?_
                        refine jg_adr _ rfl _ rfl rfl (op_assign (.base rfl)) ?_
                        refine jg_nil ?_
                        refine jn_keep [4, 5, 6, 8, 63] [4, 5, 6] (.cons rfl (.cons rfl (.cons rfl (.cons rfl (.cons rfl .nil))))) (.cons rfl (.cons rfl (.cons rfl .nil))) ?_
                        refine jn_seq ?_
                        refine j_cond rfl (fun h18 => ?_) (fun h18 => ?_)
                        · have g18 := h18; try simp at h18
                          refine j_seq ?_
                          refine j_drawE mo (by kernel_rfl) (
                            AE.cons _ _ _ rfl (gh_ga [] (ga_adr rfl rfl rfl (op_call (rkind_ok _) (.cons (.base rfl) .nil) rfl rfl)) (by kernel_rfl)) (
                            AE.cons _ _ _ rfl (gh_ga [4] (ga_adr rfl rfl rfl (op_oload ty36 (.base rfl) rfl rfl (Lens.id _))) (by kernel_rfl)) (
                            AE.cons _ _ _ rfl (gh_ga [5] (ga_adr rfl rfl rfl (op_oload ty36 (.base rfl) rfl rfl (Lens.id _))) (by kernel_rfl)) (
                            AE.cons _ _ _ rfl (gh_ga [] (ga_adr rfl rfl rfl (op_seql eq36 rfl rfl eg36 (.tv (.base rfl)) (.tv (.base rfl)))) (by kernel_rfl)) (
                            AE.cons _ _ _ rfl (gh_ga [] (ga_adr rfl rfl rfl (op_move (.base rfl))) (by kernel_rfl)) (
                            AE.cons _ _ _ rfl (gh_ga [4] (ga_gd _ _ _ _ rfl rfl rfl rfl rfl (fun hg => op_ofield fld36_0 (.base rfl))) (by kernel_rfl)) (
                            AE.cons _ _ _ rfl (gh_ga [4] (ga_gd _ _ _ _ rfl rfl rfl rfl rfl (fun hg => op_oload ty3 (.gd rfl hg) rfl rfl ln36_0)) (by kernel_rfl)) (
                            AE.cons _ _ _ rfl (gh_ga [] (ga_gd _ _ _ _ rfl rfl rfl rfl rfl (fun hg => op_call (ordered_ok _) (.cons (.gd rfl hg) .nil) rfl rfl)) (by kernel_rfl)) (
                            AE.cons _ _ _ rfl (gh_ga [] (ga_adr rfl rfl rfl (op_pick_and (.base rfl) (.base rfl) rfl (by intro h; first | (rw [h]; rfl) | simp_all))) (by kernel_rfl)) (
                            AE.cons _ _ _ rfl (gh_store ty36 (.base rfl) rfl rfl (Lens.id _) (.tv (.base rfl))) (
                            AE.cons _ _ _ rfl (gh_ga [] (ga_adr rfl rfl rfl (op_assign (.base rfl))) (by kernel_rfl)) (
                            AE.nil)))))))))))) (by kernel_rfl) ?_
                          refine jn_keep [6, 7] [6] (.cons rfl (.cons rfl .nil)) (.cons rfl .nil) ?_
                          refine jn_seq (j_ret (jr_blk (jr_seq ?_)))
                          exact jr_fin2 Try.results60 (res_cell ty36 rfl rfl rfl (Lens.id rType)) (res_tmp rfl) ⟨rfl, rfl⟩ (svB_eq (by subst_vars; first | rfl | (simp [doubleT]; done) | (simp [doubleT, *]; done) | (unfold doubleT; (repeat' split) <;> first | rfl | omega | (simp_all; done) | (simp_all; omega) | (simp_all [allowedM]; done) | (simp_all [allowedM]; omega))))
                        · have g18 := h18; try simp at h18
                          refine j_seq (j_seq ?_)
                          refine j_region ?_
                          refine jg_adr _ rfl _ rfl rfl (op_eql (.base rfl) (.base rfl)) ?_
                          refine jg_adr _ rfl _ rfl rfl (op_assign (.base rfl)) ?_
                          refine jg_nil ?_
                          refine jn_keep [4, 5, 6, 8, 75] [4, 5, 6] (.cons rfl (.cons rfl (.cons rfl (.cons rfl (.cons rfl .nil))))) (.cons rfl (.cons rfl (.cons rfl .nil))) ?_
                          refine jn_seq ?_
                          refine j_cond rfl (fun h20 => ?_) (fun h20 => ?_)
                          · have g20 := h20; try simp at h20
                            refine j_skip (jn_seq ?_)
                            refine j_cond_t rfl g20 (j_seq ?_)
                            refine j_drawE mo (by kernel_rfl) (
                              AE.cons _ _ _ rfl (gh_ga [4] (ga_adr rfl rfl rfl (op_oload ty36 (.base rfl) rfl rfl (Lens.id _))) (by kernel_rfl)) (
                              AE.cons _ _ _ rfl (gh_ga [4] (ga_adr rfl rfl rfl (op_ofield fld36_0 (.base rfl))) (by kernel_rfl)) (
                              AE.cons _ _ _ rfl (gh_ga [4] (ga_adr rfl rfl rfl (op_oload ty3 (.base rfl) rfl rfl ln36_0)) (by kernel_rfl)) (
                              AE.cons _ _ _ rfl (gh_ga [] (ga_adr rfl rfl rfl (op_eql (.base rfl) (.base rfl))) (by kernel_rfl)) (
                              AE.cons _ _ _ rfl (gh_ga [] (ga_adr rfl rfl rfl (op_move (.base rfl))) (by kernel_rfl)) (
                              AE.cons _ _ _ rfl (gh_ga [5] (ga_gd _ _ _ _ rfl rfl rfl rfl rfl (fun hg => op_ofield fld36_0 (.base rfl))) (by kernel_rfl)) (
                              AE.cons _ _ _ rfl (gh_ga [5] (ga_gd _ _ _ _ rfl rfl rfl rfl rfl (fun hg => op_oload ty3 (.gd rfl hg) rfl rfl ln36_0)) (by kernel_rfl)) (
                              AE.cons _ _ _ rfl (gh_ga [] (ga_gd _ _ _ _ rfl rfl rfl rfl rfl (fun hg => op_eql (.gd rfl hg) (.base rfl))) (by kernel_rfl)) (
                              AE.cons _ _ _ rfl (gh_ga [] (ga_adr rfl rfl rfl (op_pick_and (.base rfl) (.base rfl) rfl (by intro h; first | (rw [h]; rfl) | simp_all))) (by kernel_rfl)) (
                              AE.cons _ _ _ rfl (gh_store ty36 (.base rfl) rfl rfl (Lens.id _) (.tv (.base rfl))) (
                              AE.cons _ _ _ rfl (gh_ga [] (ga_adr rfl rfl rfl (op_assign (.base rfl))) (by kernel_rfl)) (
                              AE.nil)))))))))))) (by kernel_rfl) ?_
                            refine jn_keep [6, 7] [6] (.cons rfl (.cons rfl .nil)) (.cons rfl .nil) ?_
                            refine jn_seq (j_ret (jr_blk (jr_seq ?_)))
                            exact jr_fin2 Try.results60 (res_cell ty36 rfl rfl rfl (Lens.id rType)) (res_tmp rfl) ⟨rfl, rfl⟩ (svB_eq (by subst_vars; first | rfl | (simp [doubleT]; done) | (simp [doubleT, *]; done) | (unfold doubleT; (repeat' split) <;> first | rfl | omega | (simp_all; done) | (simp_all; omega) | (simp_all [allowedM]; done) | (simp_all [allowedM]; omega))))
                          · have g20 := h20; try simp at h20
                            refine j_region ?_
                            refine jg_adr _ rfl _ rfl rfl (op_eql (.base rfl) (.base rfl)) ?_
                            refine jg_adr _ rfl _ rfl rfl (op_assign (.base rfl)) ?_
                            refine jg_nil ?_
                            refine jn_keep [4, 5, 6, 8, 75] [4, 5, 6] (.cons rfl (.cons rfl (.cons rfl (.cons rfl (.cons rfl .nil))))) (.cons rfl (.cons rfl (.cons rfl .nil))) ?_
                            refine jn_seq ?_
                            refine j_cond rfl (fun h21 => ?_) (fun h21 => ?_)
                            · have g21 := h21; try simp at h21
                              refine j_seq ?_
                              refine j_drawE mo (by kernel_rfl) (
                                AE.cons _ _ _ rfl (gh_ga [4] (ga_adr rfl rfl rfl (op_oload ty36 (.base rfl) rfl rfl (Lens.id _))) (by kernel_rfl)) (
                                AE.cons _ _ _ rfl (gh_ga [4] (ga_adr rfl rfl rfl (op_ofield fld36_0 (.base rfl))) (by kernel_rfl)) (
                                AE.cons _ _ _ rfl (gh_ga [4] (ga_adr rfl rfl rfl (op_oload ty3 (.base rfl) rfl rfl ln36_0)) (by kernel_rfl)) (
                                AE.cons _ _ _ rfl (gh_ga [] (ga_adr rfl rfl rfl (op_eql (.base rfl) (.base rfl))) (by kernel_rfl)) (
                                AE.cons _ _ _ rfl (gh_ga [] (ga_adr rfl rfl rfl (op_move (.base rfl))) (by kernel_rfl)) (
                                AE.cons _ _ _ rfl (gh_ga [5] (ga_gd _ _ _ _ rfl rfl rfl rfl rfl (fun hg => op_ofield fld36_0 (.base rfl))) (by kernel_rfl)) (
                                AE.cons _ _ _ rfl (gh_ga [5] (ga_gd _ _ _ _ rfl rfl rfl rfl rfl (fun hg => op_oload ty3 (.gd rfl hg) rfl rfl ln36_0)) (by kernel_rfl)) (
                                AE.cons _ _ _ rfl (gh_ga [] (ga_gd _ _ _ _ rfl rfl rfl rfl rfl (fun hg => op_eql (.gd rfl hg) (.base rfl))) (by kernel_rfl)) (
                                AE.cons _ _ _ rfl (gh_ga [] (ga_adr rfl rfl rfl (op_pick_and (.base rfl) (.base rfl) rfl (by intro h; first | (rw [h]; rfl) | simp_all))) (by kernel_rfl)) (
                                AE.cons _ _ _ rfl (gh_store ty36 (.base rfl) rfl rfl (Lens.id _) (.tv (.base rfl))) (
                                AE.cons _ _ _ rfl (gh_ga [] (ga_adr rfl rfl rfl (op_assign (.base rfl))) (by kernel_rfl)) (
                                AE.nil)))))))))))) (by kernel_rfl) ?_
                              refine jn_keep [6, 7] [6] (.cons rfl (.cons rfl .nil)) (.cons rfl .nil) ?_
                              refine jn_seq (j_ret (jr_blk (jr_seq ?_)))
                              exact jr_fin2 Try.results60 (res_cell ty36 rfl rfl rfl (Lens.id rType)) (res_tmp rfl) ⟨rfl, rfl⟩ (svB_eq (by subst_vars; first | rfl | (simp [doubleT]; done) | (simp [doubleT, *]; done) | (unfold doubleT; (repeat' split) <;> first | rfl | omega | (simp_all; done) | (simp_all; omega) | (simp_all [allowedM]; done) | (simp_all [allowedM]; omega))))
                            · have g21 := h21; try simp at h21
                              refine j_seq (j_seq ?_)
                              refine j_region ?_
                              refine jg_adr _ rfl _ rfl rfl (op_eql (.base rfl) (.base rfl)) ?_
                              refine jg_adr _ rfl _ rfl rfl (op_assign (.base rfl)) ?_
                              refine jg_nil ?_
                              refine jn_keep [4, 5, 6, 8, 87] [4, 5, 6] (.cons rfl (.cons rfl (.cons rfl (.cons rfl (.cons rfl .nil))))) (.cons rfl (.cons rfl (.cons rfl .nil))) ?_
                              refine jn_seq ?_
                              refine j_cond rfl (fun h23 => ?_) (fun h23 => ?_)
                              · have g23 := h23; try simp at h23
                                refine j_skip (jn_seq ?_)
                                refine j_cond_t rfl g23 (j_seq ?_)
                                refine j_drawE mo (by kernel_rfl) (
                                  AE.cons _ _ _ rfl (gh_ga [4] (ga_adr rfl rfl rfl (op_oload ty36 (.base rfl) rfl rfl (Lens.id _))) (by kernel_rfl)) (
                                  AE.cons _ _ _ rfl (gh_ga [4] (ga_adr rfl rfl rfl (op_ofield fld36_0 (.base rfl))) (by kernel_rfl)) (
                                  AE.cons _ _ _ rfl (gh_ga [4] (ga_adr rfl rfl rfl (op_oload ty3 (.base rfl) rfl rfl ln36_0)) (by kernel_rfl)) (
                                  AE.cons _ _ _ rfl (gh_ga [] (ga_adr rfl rfl rfl (op_eql (.base rfl) (.base rfl))) (by kernel_rfl)) (
                                  AE.cons _ _ _ rfl (gh_ga [] (ga_adr rfl rfl rfl (op_move (.base rfl))) (by kernel_rfl)) (
                                  AE.cons _ _ _ rfl (gh_ga [5] (ga_gd _ _ _ _ rfl rfl rfl rfl rfl (fun hg => op_ofield fld36_0 (.base rfl))) (by kernel_rfl)) (
                                  AE.cons _ _ _ rfl (gh_ga [5] (ga_gd _ _ _ _ rfl rfl rfl rfl rfl (fun hg => op_oload ty3 (.gd rfl hg) rfl rfl ln36_0)) (by kernel_rfl)) (
                                  AE.cons _ _ _ rfl (gh_ga [] (ga_gd _ _ _ _ rfl rfl rfl rfl rfl (fun hg => op_eql (.gd rfl hg) (.base rfl))) (by kernel_rfl)) (
                                  AE.cons _ _ _ rfl (gh_ga [] (ga_adr rfl rfl rfl (op_pick_and (.base rfl) (.base rfl) rfl (by intro h; first | (rw [h]; rfl) | simp_all))) (by kernel_rfl)) (
                                  AE.cons _ _ _ rfl (gh_store ty36 (.base rfl) rfl rfl (Lens.id _) (.tv (.base rfl))) (
                                  AE.cons _ _ _ rfl (gh_ga [] (ga_adr rfl rfl rfl (op_assign (.base rfl))) (by kernel_rfl)) (
                                  AE.nil)))))))))))) (by kernel_rfl) ?_
                                refine jn_keep [6, 7] [6] (.cons rfl (.cons rfl .nil)) (.cons rfl .nil) ?_
                                refine jn_seq (j_ret (jr_blk (jr_seq ?_)))
                                exact jr_fin2 Try.results60 (res_cell ty36 rfl rfl rfl (Lens.id rType)) (res_tmp rfl) ⟨rfl, rfl⟩ (svB_eq (by subst_vars; first | rfl | (simp [doubleT]; done) | (simp [doubleT, *]; done) | (unfold doubleT; (repeat' split) <;> first | rfl | omega | (simp_all; done) | (simp_all; omega) | (simp_all [allowedM]; done) | (simp_all [allowedM]; omega))))
                              · have g23 := h23; try simp at h23
                                refine j_region ?_
                                refine jg_adr _ rfl _ rfl rfl (op_eql (.base rfl) (.base rfl)) ?_
                                refine jg_adr _ rfl _ rfl rfl (op_assign (.base rfl)) ?_
                                refine jg_nil ?_
                                refine jn_keep [4, 5, 6, 87] [4, 5, 6] (.cons rfl (.cons rfl (.cons rfl (.cons rfl .nil)))) (.cons rfl (.cons rfl (.cons rfl .nil))) ?_
                                refine jn_seq ?_
                                refine j_cond rfl (fun h24 => ?_) (fun h24 => ?_)
                                · have g24 := h24; try simp at h24
                                  refine j_seq ?_
                                  refine j_drawE mo (by kernel_rfl) (
                                    AE.cons _ _ _ rfl (gh_ga [4] (ga_adr rfl rfl rfl (op_oload ty36 (.base rfl) rfl rfl (Lens.id _))) (by kernel_rfl)) (
                                    AE.cons _ _ _ rfl (gh_ga [4] (ga_adr rfl rfl rfl (op_ofield fld36_0 (.base rfl))) (by kernel_rfl)) (
                                    AE.cons _ _ _ rfl (gh_ga [4] (ga_adr rfl rfl rfl (op_oload ty3 (.base rfl) rfl rfl ln36_0)) (by kernel_rfl)) (
                                    AE.cons _ _ _ rfl (gh_ga [] (ga_adr rfl rfl rfl (op_eql (.base rfl) (.base rfl))) (by kernel_rfl)) (
                                    AE.cons _ _ _ rfl (gh_ga [] (ga_adr rfl rfl rfl (op_move (.base rfl))) (by kernel_rfl)) (
                                    AE.cons _ _ _ rfl (gh_ga [5] (ga_gd _ _ _ _ rfl rfl rfl rfl rfl (fun hg => op_ofield fld36_0 (.base rfl))) (by kernel_rfl)) (
                                    AE.cons _ _ _ rfl (gh_ga [5] (ga_gd _ _ _ _ rfl rfl rfl rfl rfl (fun hg => op_oload ty3 (.gd rfl hg) rfl rfl ln36_0)) (by kernel_rfl)) (
                                    AE.cons _ _ _ rfl (gh_ga [] (ga_gd _ _ _ _ rfl rfl rfl rfl rfl (fun hg => op_eql (.gd rfl hg) (.base rfl))) (by kernel_rfl)) (
                                    AE.cons _ _ _ rfl (gh_ga [] (ga_adr rfl rfl rfl (op_pick_and (.base rfl) (.base rfl) rfl (by intro h; first | (rw [h]; rfl) | simp_all))) (by kernel_rfl)) (
                                    AE.cons _ _ _ rfl (gh_store ty36 (.base rfl) rfl rfl (Lens.id _) (.tv (.base rfl))) (
                                    AE.cons _ _ _ rfl (gh_ga [] (ga_adr rfl rfl rfl (op_assign (.base rfl))) (by kernel_rfl)) (
                                    AE.nil)))))))))))) (by kernel_rfl) ?_
                                  refine jn_keep [6, 7] [6] (.cons rfl (.cons rfl .nil)) (.cons rfl .nil) ?_
                                  refine jn_seq (j_ret (jr_blk (jr_seq ?_)))
                                  exact jr_fin2 Try.results60 (res_cell ty36 rfl rfl rfl (Lens.id rType)) (res_tmp rfl) ⟨rfl, rfl⟩ (svB_eq (by subst_vars; first | rfl | (simp [doubleT]; done) | (simp [doubleT, *]; done) | (unfold doubleT; (repeat' split) <;> first | rfl | omega | (simp_all; done) | (simp_all; omega) | (simp_all [allowedM]; done) | (simp_all [allowedM]; omega))))
                                · have g24 := h24; try simp at h24
                                  refine j_skip (jn_blk (jn_seq (j_seq ?_)))
                                  refine j_drawE mo (by kernel_rfl) (
                                    AE.cons _ _ _ rfl (gh_ga [] (ga_adr rfl rfl rfl (op_call (rkind_ok _) (.cons (.base rfl) .nil) rfl rfl)) (by kernel_rfl)) (
                                    AE.cons _ _ _ rfl (gh_ga [4] (ga_adr rfl rfl rfl (op_ofield fld36_0 (.base rfl))) (by kernel_rfl)) (
                                    AE.cons _ _ _ rfl (gh_ga [4] (ga_adr rfl rfl rfl (op_oload ty3 (.base rfl) rfl rfl ln36_0)) (by kernel_rfl)) (
                                    AE.cons _ _ _ rfl (gh_ga [] (ga_adr rfl rfl rfl (op_eql (.base rfl) (.base rfl))) (by kernel_rfl)) (
                                    AE.cons _ _ _ rfl (gh_ga [] (ga_adr rfl rfl rfl (op_move (.base rfl))) (by kernel_rfl)) (
                                    AE.cons _ _ _ rfl (gh_ga [5] (ga_gd _ _ _ _ rfl rfl rfl rfl rfl (fun hg => op_ofield fld36_0 (.base rfl))) (by kernel_rfl)) (
                                    AE.cons _ _ _ rfl (gh_ga [5] (ga_gd _ _ _ _ rfl rfl rfl rfl rfl (fun hg => op_oload ty3 (.gd rfl hg) rfl rfl ln36_0)) (by kernel_rfl)) (
                                    AE.cons _ _ _ rfl (gh_ga [] (ga_gd _ _ _ _ rfl rfl rfl rfl rfl (fun hg => op_eql (.gd rfl hg) (.base rfl))) (by kernel_rfl)) (
                                    AE.cons _ _ _ rfl (gh_ga [] (ga_adr rfl rfl rfl (op_pick_and (.base rfl) (.base rfl) rfl (by intro h; first | (rw [h]; rfl) | simp_all))) (by kernel_rfl)) (
                                    AE.cons _ _ _ rfl (gh_store ty36 (.base rfl) rfl rfl (Lens.id _) (.tv (.base rfl))) (
                                    AE.cons _ _ _ rfl (gh_ga [] (ga_adr rfl rfl rfl (op_assign (.base rfl))) (by kernel_rfl)) (
                                    AE.nil)))))))))))) (by kernel_rfl) ?_
                                  refine jn_keep [6, 7] [6] (.cons rfl (.cons rfl .nil)) (.cons rfl .nil) ?_
                                  refine jn_seq (j_ret ?_)
                                  exact jr_fin2 Try.results60 (res_cell ty36 rfl rfl rfl (Lens.id rType)) (res_tmp rfl) ⟨rfl, rfl⟩ (svB_eq (by subst_vars; first | rfl | (simp [doubleT]; done) | (simp [doubleT, *]; done) | (unfold doubleT; (repeat' split) <;> first | rfl | omega | (simp_all; done) | (simp_all; omega) | (simp_all [allowedM]; done) | (simp_all [allowedM]; omega))))

theorem single_ok (d : TNode) (a : TType) (s : TSignature) (hn : d.2 ≤ 9223372036854775807) (ha : arity d.1 = 1) (hr : ranged d s = true) (hf : found d s = true) : Ct Try.prog 59 [.tv rNode d, .tv rType a, .tv rSignature s] (svB (singleT d a s)) := by
  refine ct_intro Try.func59 rfl rfl Try.ntmps59 rfl rfl ?_
  intro w0 ok0
  refine j_seq ?_
  refine j_region ?_
  refine jg_os _ rfl (op_box (.tv (.base rfl)) rfl rfl rfl) ?_
  refine jg_os _ rfl (op_box (.tv (.base rfl)) rfl rfl rfl) ?_
  refine jg_os _ rfl (op_box (.tv (.base rfl)) rfl rfl rfl) ?_
  refine jg_os _ rfl (op_alloc _ z36 rfl rfl rfl) ?_
  refine jg_adr _ rfl _ rfl rfl (op_assign (.base rfl)) ?_
  refine jg_nil ?_
  refine jn_keep [3, 4, 5, 6] [3, 4, 5, 6] (.cons rfl (.cons rfl (.cons rfl (.cons rfl .nil)))) (.cons rfl (.cons rfl (.cons rfl (.cons rfl .nil)))) ?_
  refine jn_seq (j_seq (j_seq ?_))
  refine j_region ?_
  refine jg_adr _ rfl _ rfl rfl (op_ofield fld50_0 (.base rfl)) ?_
  refine jg_adr _ rfl _ rfl rfl (op_oload ty3 (.base rfl) rfl rfl ln50_0) ?_
  refine jg_nil ?_
  refine jn_keep [3, 4, 5, 6, 11] [3, 4, 5, 6] (.cons rfl (.cons rfl (.cons rfl (.cons rfl (.cons rfl .nil))))) (.cons rfl (.cons rfl (.cons rfl (.cons rfl .nil)))) ?_
  refine jn_seq (j_block (j_seq ?_))
  refine j_region ?_
  refine jg_adr _ rfl _ rfl rfl (op_eql (.base rfl) (.base rfl)) ?_
  refine jg_adr _ rfl _ rfl rfl (op_assign (.base rfl)) ?_
  refine jg_nil ?_
  refine jn_keep [3, 4, 5, 6, 11, 12] [3, 4, 5, 6] (.cons rfl (.cons rfl (.cons rfl (.cons rfl (.cons rfl (.cons rfl .nil)))))) (.cons rfl (.cons rfl (.cons rfl (.cons rfl .nil)))) ?_
  refine jn_seq ?_
  refine j_cond rfl (fun h2 => ?_) (fun h2 => ?_)
  · try simp at h2
    refine j_seq ?_
    refine j_drawE mo (by kernel_rfl) (
      AE.cons _ _ _ rfl (gh_ga [4] (ga_adr rfl rfl rfl (op_oload ty36 (.base rfl) rfl rfl (Lens.id _))) (by kernel_rfl)) (
      AE.cons _ _ _ rfl (gh_ga [4] (ga_adr rfl rfl rfl (op_ofield fld36_0 (.base rfl))) (by kernel_rfl)) (
      AE.cons _ _ _ rfl (gh_ga [4] (ga_adr rfl rfl rfl (op_oload ty3 (.base rfl) rfl rfl ln36_0)) (by kernel_rfl)) (
      AE.cons _ _ _ rfl (gh_ga [] (ga_adr rfl rfl rfl (op_call (number_ok _) (.cons (.base rfl) .nil) rfl rfl)) (by kernel_rfl)) (
      AE.cons _ _ _ rfl (gh_store ty36 (.base rfl) rfl rfl (Lens.id _) (.tv (.base rfl))) (
      AE.cons _ _ _ rfl (gh_ga [] (ga_adr rfl rfl rfl (op_assign (.base rfl))) (by kernel_rfl)) (
      AE.nil))))))) (by kernel_rfl) ?_
    refine jn_keep [6, 7] [6] (.cons rfl (.cons rfl .nil)) (.cons rfl .nil) ?_
    refine jn_seq (j_ret (jr_blk (jr_seq ?_)))
    exact jr_fin2 Try.results59 (res_cell ty36 rfl rfl rfl (Lens.id rType)) (res_tmp rfl) ⟨rfl, rfl⟩ (svB_eq (by (try simp only [← ht]); subst_vars; first | rfl | (simp [singleT]; done) | (simp [singleT, *]; done) | (unfold singleT; (repeat' split) <;> first | rfl | omega | (simp_all; done) | (simp_all; omega) | (simp_all [allowedM]; done) | (simp_all [allowedM]; omega))))
  · try simp at h2
    refine j_seq ?_
    refine j_region ?_
    refine jg_adr _ rfl _ rfl rfl (op_eql (.base rfl) (.base rfl)) ?_
    refine jg_adr _ rfl _ rfl rfl (op_assign (.base rfl)) ?_
    refine jg_nil ?_
    refine jn_keep [3, 4, 5, 6, 11, 18] [3, 4, 5, 6] (.cons rfl (.cons rfl (.cons rfl (.cons rfl (.cons rfl (.cons rfl .nil)))))) (.cons rfl (.cons rfl (.cons rfl (.cons rfl .nil)))) ?_
    refine jn_seq ?_
    refine j_cond rfl (fun h4 => ?_) (fun h4 => ?_)
    · try simp at h4
      refine j_seq ?_
      refine j_drawE mo (by kernel_rfl) (
        AE.cons _ _ _ rfl (gh_ga [4] (ga_adr rfl rfl rfl (op_oload ty36 (.base rfl) rfl rfl (Lens.id _))) (by kernel_rfl)) (
        AE.cons _ _ _ rfl (gh_ga [4] (ga_adr rfl rfl rfl (op_ofield fld36_0 (.base rfl))) (by kernel_rfl)) (
        AE.cons _ _ _ rfl (gh_ga [4] (ga_adr rfl rfl rfl (op_oload ty3 (.base rfl) rfl rfl ln36_0)) (by kernel_rfl)) (
        AE.cons _ _ _ rfl (gh_ga [] (ga_adr rfl rfl rfl (op_eql (.base rfl) (.base rfl))) (by kernel_rfl)) (
        AE.cons _ _ _ rfl (gh_store ty36 (.base rfl) rfl rfl (Lens.id _) (.tv (.base rfl))) (
        AE.cons _ _ _ rfl (gh_ga [] (ga_adr rfl rfl rfl (op_assign (.base rfl))) (by kernel_rfl)) (
        AE.nil))))))) (by kernel_rfl) ?_
      refine jn_keep [6, 7] [6] (.cons rfl (.cons rfl .nil)) (.cons rfl .nil) ?_
      refine jn_seq (j_ret (jr_blk (jr_seq ?_)))
      exact jr_fin2 Try.results59 (res_cell ty36 rfl rfl rfl (Lens.id rType)) (res_tmp rfl) ⟨rfl, rfl⟩ (svB_eq (by (try simp only [← ht]); subst_vars; first | rfl | (simp [singleT]; done) | (simp [singleT, *]; done) | (unfold singleT; (repeat' split) <;> first | rfl | omega | (simp_all; done) | (simp_all; omega) | (simp_all [allowedM]; done) | (simp_all [allowedM]; omega))))
    · try simp at h4
      refine j_seq (j_seq ?_)
      refine j_region ?_
      refine jg_adr _ rfl _ rfl rfl (op_eql (.base rfl) (.base rfl)) ?_
      refine jg_adr _ rfl _ rfl rfl (op_assign (.base rfl)) ?_
      refine jg_nil ?_
      refine jn_keep [3, 4, 5, 6, 11, 24] [3, 4, 5, 6] (.cons rfl (.cons rfl (.cons rfl (.cons rfl (.cons rfl (.cons rfl .nil)))))) (.cons rfl (.cons rfl (.cons rfl (.cons rfl .nil)))) ?_
      refine jn_seq ?_
      refine j_cond rfl (fun h6 => ?_) (fun h6 => ?_)
      · have g6 := h6; try simp at h6
        refine j_skip (jn_seq ?_)
        refine j_cond_t rfl g6 (j_seq ?_)
        refine j_drawE mo (by kernel_rfl) (
          AE.cons _ _ _ rfl (gh_ga [] (ga_adr rfl rfl rfl (op_call (rkind_ok _) (.cons (.base rfl) .nil) rfl rfl)) (by kernel_rfl)) (
          AE.cons _ _ _ rfl (gh_ga [4] (ga_adr rfl rfl rfl (op_ofield fld36_0 (.base rfl))) (by kernel_rfl)) (
          AE.cons _ _ _ rfl (gh_ga [4] (ga_adr rfl rfl rfl (op_oload ty3 (.base rfl) rfl rfl ln36_0)) (by kernel_rfl)) (
          AE.cons _ _ _ rfl (gh_ga [] (ga_adr rfl rfl rfl (op_eql (.base rfl) (.base rfl))) (by kernel_rfl)) (
          AE.cons _ _ _ rfl (gh_store ty36 (.base rfl) rfl rfl (Lens.id _) (.tv (.base rfl))) (
          AE.cons _ _ _ rfl (gh_ga [] (ga_adr rfl rfl rfl (op_assign (.base rfl))) (by kernel_rfl)) (
          AE.nil))))))) (by kernel_rfl) ?_
        refine jn_keep [6, 7] [6] (.cons rfl (.cons rfl .nil)) (.cons rfl .nil) ?_
        refine jn_seq (j_ret (jr_blk (jr_seq ?_)))
        exact jr_fin2 Try.results59 (res_cell ty36 rfl rfl rfl (Lens.id rType)) (res_tmp rfl) ⟨rfl, rfl⟩ (svB_eq (by (try simp only [← ht]); subst_vars; first | rfl | (simp [singleT]; done) | (simp [singleT, *]; done) | (unfold singleT; (repeat' split) <;> first | rfl | omega | (simp_all; done) | (simp_all; omega) | (simp_all [allowedM]; done) | (simp_all [allowedM]; omega))))
      · have g6 := h6; try simp at h6
        refine j_region ?_
        refine jg_adr _ rfl _ rfl rfl (op_eql (.base rfl) (.base rfl)) ?_
        refine jg_adr _ rfl _ rfl rfl (op_assign (.base rfl)) ?_
        refine jg_nil ?_
        refine jn_keep [3, 4, 5, 6, 11, 24] [3, 4, 5, 6] (.cons rfl (.cons rfl (.cons rfl (.cons rfl (.cons rfl (.cons rfl .nil)))))) (.cons rfl (.cons rfl (.cons rfl (.cons rfl .nil)))) ?_
        refine jn_seq ?_
        refine j_cond rfl (fun h7 => ?_) (fun h7 => ?_)
        · have g7 := h7; try simp at h7
          refine j_seq ?_
          refine j_drawE mo (by kernel_rfl) (
            AE.cons _ _ _ rfl (gh_ga [] (ga_adr rfl rfl rfl (op_call (rkind_ok _) (.cons (.base rfl) .nil) rfl rfl)) (by kernel_rfl)) (
            AE.cons _ _ _ rfl (gh_ga [4] (ga_adr rfl rfl rfl (op_ofield fld36_0 (.base rfl))) (by kernel_rfl)) (
            AE.cons _ _ _ rfl (gh_ga [4] (ga_adr rfl rfl rfl (op_oload ty3 (.base rfl) rfl rfl ln36_0)) (by kernel_rfl)) (
            AE.cons _ _ _ rfl (gh_ga [] (ga_adr rfl rfl rfl (op_eql (.base rfl) (.base rfl))) (by kernel_rfl)) (
            AE.cons _ _ _ rfl (gh_store ty36 (.base rfl) rfl rfl (Lens.id _) (.tv (.base rfl))) (
            AE.cons _ _ _ rfl (gh_ga [] (ga_adr rfl rfl rfl (op_assign (.base rfl))) (by kernel_rfl)) (
            AE.nil))))))) (by kernel_rfl) ?_
          refine jn_keep [6, 7] [6] (.cons rfl (.cons rfl .nil)) (.cons rfl .nil) ?_
          refine jn_seq (j_ret (jr_blk (jr_seq ?_)))
          exact jr_fin2 Try.results59 (res_cell ty36 rfl rfl rfl (Lens.id rType)) (res_tmp rfl) ⟨rfl, rfl⟩ (svB_eq (by (try simp only [← ht]); subst_vars; first | rfl | (simp [singleT]; done) | (simp [singleT, *]; done) | (unfold singleT; (repeat' split) <;> first | rfl | omega | (simp_all; done) | (simp_all; omega) | (simp_all [allowedM]; done) | (simp_all [allowedM]; omega))))
        · have g7 := h7; try simp at h7
          refine j_seq ?_
          refine j_region ?_
          refine jg_adr _ rfl _ rfl rfl (op_eql (.base rfl) (.base rfl)) ?_
          refine jg_adr _ rfl _ rfl rfl (op_assign (.base rfl)) ?_
          refine jg_nil ?_
          refine jn_keep [3, 4, 5, 6, 31] [3, 4, 5, 6] (.cons rfl (.cons rfl (.cons rfl (.cons rfl (.cons rfl .nil))))) (.cons rfl (.cons rfl (.cons rfl (.cons rfl .nil)))) ?_
          refine jn_seq ?_
          refine j_cond rfl (fun h9 => ?_) (fun h9 => ?_)
          · try simp at h9
            refine j_seq ?_
            have hq : 0 ≤ d.2 ∧ d.2 < s.2.1.length := by simpa [found, h9] using hf
            have hb := hq.2
            have ht := nthTab_eq (l := s.2.1) (n := d.2) (by omega)
            refine j_region ?_
            refine jg_adr _ rfl _ rfl rfl (op_ofield fld27_1 (.base rfl)) ?_
            refine jg_adr _ rfl _ rfl rfl (op_oload ty24 (.base rfl) rfl rfl ln27_1) ?_
            refine jg_adr _ rfl _ rfl rfl (op_ofield fld50_1 (.base rfl)) ?_
            refine jg_adr _ rfl _ rfl rfl (op_oload ty3 (.base rfl) rfl rfl ln50_1) ?_
            refine jg_adr _ rfl _ rfl rfl (op_index Try.underlying24 ty101 (.base rfl) (.base rfl) (Int.toNat_of_nonneg hq.1).symm (List.getElem?_eq_getElem (by first | omega | (simp; done) | (simp; omega) | (simp at hg; omega)))) ?_
            refine jg_adr _ rfl _ rfl rfl (op_load ty101 (.base rfl)) ?_
            refine jg_os _ rfl (op_alloc _ z101 rfl rfl rfl) ?_
            refine jg_os _ rfl (op_ostore ty101 (.base rfl) rfl rfl (Lens.id _) (.tv (.base rfl))) ?_
            refine jg_nil ?_
            refine jn_keep [4, 5, 6, 8] [4, 5, 6, 8] (.cons rfl (.cons rfl (.cons rfl (.cons rfl .nil)))) (.cons rfl (.cons rfl (.cons rfl (.cons rfl .nil)))) ?_
            refine jn_seq (j_seq ?_)
            refine j_drawE mo (by kernel_rfl) (
              AE.cons _ _ _ rfl (gh_ga [8] (ga_adr rfl rfl rfl (op_ofield fld101_2 (.base rfl))) (by kernel_rfl)) (
              AE.cons _ _ _ rfl (gh_ga [8] (ga_adr rfl rfl rfl (op_oload ty36 (.base rfl) rfl rfl ln101_2)) (by kernel_rfl)) (
              AE.cons _ _ _ rfl (gh_ga [8] (ga_adr rfl rfl rfl (op_ofield fld101_1 (.base rfl))) (by kernel_rfl)) (
              AE.cons _ _ _ rfl (gh_ga [8] (ga_adr rfl rfl rfl (op_oload ty36 (.base rfl) rfl rfl ln101_1)) (by kernel_rfl)) (
              AE.cons _ _ _ rfl (gh_ga [5] (ga_adr rfl rfl rfl (op_ofield fld27_0 (.base rfl))) (by kernel_rfl)) (
              AE.cons _ _ _ rfl (gh_ga [5] (ga_adr rfl rfl rfl (op_oload ty23 (.base rfl) rfl rfl ln27_0)) (by kernel_rfl)) (
              AE.cons _ _ _ rfl (gh_ga [] (ga_adr rfl rfl rfl (op_call (rvalidType_ok _ _) (.cons (.base rfl) (.cons (.base rfl) .nil)) rfl rfl)) (by kernel_rfl)) (
              AE.cons _ _ _ rfl (gh_ga [] (ga_adr rfl rfl rfl (op_move (.base rfl))) (by kernel_rfl)) (
              AE.cons _ _ _ rfl (gh_ga [8] (ga_gd _ _ _ _ rfl rfl rfl rfl rfl (fun hg => op_ofield fld101_2 (.base rfl))) (by kernel_rfl)) (
              AE.cons _ _ _ rfl (gh_ga [8] (ga_gd _ _ _ _ rfl rfl rfl rfl rfl (fun hg => op_oload ty36 (.gd rfl hg) rfl rfl ln101_2)) (by kernel_rfl)) (
              AE.cons _ _ _ rfl (gh_ga [5] (ga_gd _ _ _ _ rfl rfl rfl rfl rfl (fun hg => op_ofield fld27_0 (.base rfl))) (by kernel_rfl)) (
              AE.cons _ _ _ rfl (gh_ga [5] (ga_gd _ _ _ _ rfl rfl rfl rfl rfl (fun hg => op_oload ty23 (.gd rfl hg) rfl rfl ln27_0)) (by kernel_rfl)) (
              AE.cons _ _ _ rfl (gh_ga [] (ga_gd _ _ _ _ rfl rfl rfl rfl rfl (fun hg => op_call (rvalidType_ok _ _) (.cons (.gd rfl hg) (.cons (.gd rfl hg) .nil)) rfl rfl)) (by kernel_rfl)) (
              AE.cons _ _ _ rfl (gh_ga [] (ga_adr rfl rfl rfl (op_pick_and (.base rfl) (.base rfl) rfl (by intro h; first | (rw [h]; rfl) | simp_all))) (by kernel_rfl)) (
              AE.cons _ _ _ rfl (gh_ga [] (ga_adr rfl rfl rfl (op_move (.base rfl))) (by kernel_rfl)) (
              AE.cons _ _ _ rfl (gh_ga [4] (ga_gd _ _ _ _ rfl rfl rfl rfl rfl (fun hg => op_oload ty36 (.base rfl) rfl rfl (Lens.id _))) (by kernel_rfl)) (
              AE.cons _ _ _ rfl (gh_ga [8] (ga_gd _ _ _ _ rfl rfl rfl rfl rfl (fun hg => op_ofield fld101_1 (.base rfl))) (by kernel_rfl)) (
              AE.cons _ _ _ rfl (gh_ga [8] (ga_gd _ _ _ _ rfl rfl rfl rfl rfl (fun hg => op_oload ty36 (.gd rfl hg) rfl rfl ln101_1)) (by kernel_rfl)) (
              AE.cons _ _ _ rfl (gh_ga [] (ga_gd _ _ _ _ rfl rfl rfl rfl rfl (fun hg => op_seql eq36 rfl rfl eg36 (.tv (.gd rfl hg)) (.tv (.gd rfl hg)))) (by kernel_rfl)) (
              AE.cons _ _ _ rfl (gh_ga [] (ga_adr rfl rfl rfl (op_pick_and (.base rfl) (.base rfl) rfl (by intro h; first | (rw [h]; rfl) | simp_all))) (by kernel_rfl)) (
              AE.cons _ _ _ rfl (gh_store ty36 (.base rfl) rfl rfl (Lens.id _) (.tv (.base rfl))) (
              AE.cons _ _ _ rfl (gh_ga [] (ga_adr rfl rfl rfl (op_assign (.base rfl))) (by kernel_rfl)) (
              AE.nil))))))))))))))))))))))) (by kernel_rfl) ?_
            refine jn_keep [6, 7] [6] (.cons rfl (.cons rfl .nil)) (.cons rfl .nil) ?_
            refine jn_seq (j_ret (jr_blk (jr_seq ?_)))
            exact jr_fin2 Try.results59 (res_cell ty36 rfl rfl rfl (Lens.id rType)) (res_tmp rfl) ⟨rfl, rfl⟩ (svB_eq (by (try simp only [← ht]); subst_vars; first | rfl | (simp [singleT]; done) | (simp [singleT, *]; done) | (unfold singleT; (repeat' split) <;> first | rfl | omega | (simp_all; done) | (simp_all; omega) | (simp_all [allowedM]; done) | (simp_all [allowedM]; omega))))
          · try simp at h9
            refine j_skip (jn_blk (jn_seq (j_seq ?_)))
            have e34 : d.1 = 34 := (by unfold arity at ha; (repeat' split at ha) <;> omega)
            have hq0 : 0 ≤ d.2 := (by simp [ranged, e34] at hr; exact hr.1)
            have hb : d.2 / 8 < s.2.1.length := (by simpa [found, e34] using hf)
            have hq1 : 0 ≤ d.2 / 8 := (by omega)
            have ht := nthTab_eq (l := s.2.1) (n := d.2 / 8) (by omega)
            refine j_region ?_
            refine jg_adr _ rfl _ rfl rfl (op_ofield fld27_1 (.base rfl)) ?_
            refine jg_adr _ rfl _ rfl rfl (op_oload ty24 (.base rfl) rfl rfl ln27_1) ?_
            refine jg_adr _ rfl _ rfl rfl (op_ofield fld50_1 (.base rfl)) ?_
            refine jg_adr _ rfl _ rfl rfl (op_oload ty3 (.base rfl) rfl rfl ln50_1) ?_
            refine jg_adr _ rfl _ rfl rfl (op_quo (.base rfl) (.base rfl) (by omega) (quo64 hq0 hn (by omega))) ?_
            refine jg_adr _ rfl _ rfl rfl (op_index Try.underlying24 ty101 (.base rfl) (.base rfl) (Int.toNat_of_nonneg hq1).symm (List.getElem?_eq_getElem (by first | omega | (simp; done) | (simp; omega) | (simp at hg; omega)))) ?_
            refine jg_adr _ rfl _ rfl rfl (op_load ty101 (.base rfl)) ?_
            refine jg_os _ rfl (op_alloc _ z101 rfl rfl rfl) ?_
            refine jg_os _ rfl (op_ostore ty101 (.base rfl) rfl rfl (Lens.id _) (.tv (.base rfl))) ?_
            refine jg_nil ?_
            refine jn_keep [4, 6, 9] [4, 6, 9] (.cons rfl (.cons rfl (.cons rfl .nil))) (.cons rfl (.cons rfl (.cons rfl .nil))) ?_
            refine jn_seq (j_seq ?_)
            refine j_drawE mo (by kernel_rfl) (
              AE.cons _ _ _ rfl (gh_ga [4] (ga_adr rfl rfl rfl (op_oload ty36 (.base rfl) rfl rfl (Lens.id _))) (by kernel_rfl)) (
              AE.cons _ _ _ rfl (gh_ga [4] (ga_adr rfl rfl rfl (op_ofield fld36_0 (.base rfl))) (by kernel_rfl)) (
              AE.cons _ _ _ rfl (gh_ga [4] (ga_adr rfl rfl rfl (op_oload ty3 (.base rfl) rfl rfl ln36_0)) (by kernel_rfl)) (
              AE.cons _ _ _ rfl (gh_ga [] (ga_adr rfl rfl rfl (op_eql (.base rfl) (.base rfl))) (by kernel_rfl)) (
              AE.cons _ _ _ rfl (gh_ga [] (ga_adr rfl rfl rfl (op_move (.base rfl))) (by kernel_rfl)) (
              AE.cons _ _ _ rfl (gh_ga [9] (ga_gd _ _ _ _ rfl rfl rfl rfl rfl (fun hg => op_ofield fld101_1 (.base rfl))) (by kernel_rfl)) (
              AE.cons _ _ _ rfl (gh_ga [9] (ga_gd _ _ _ _ rfl rfl rfl rfl rfl (fun hg => op_oload ty36 (.gd rfl hg) rfl rfl ln101_1)) (by kernel_rfl)) (
              AE.cons _ _ _ rfl (gh_ga [] (ga_gd _ _ _ _ rfl rfl rfl rfl rfl (fun hg => op_call (rkind_ok _) (.cons (.base rfl) .nil) rfl rfl)) (by kernel_rfl)) (
              AE.cons _ _ _ rfl (gh_ga [] (ga_gd _ _ _ _ rfl rfl rfl rfl rfl (fun hg => op_seql eq36 rfl rfl eg36 (.tv (.gd rfl hg)) (.tv (.gd rfl hg)))) (by kernel_rfl)) (
              AE.cons _ _ _ rfl (gh_ga [] (ga_adr rfl rfl rfl (op_pick_and (.base rfl) (.base rfl) rfl (by intro h; first | (rw [h]; rfl) | simp_all))) (by kernel_rfl)) (
              AE.cons _ _ _ rfl (gh_ga [] (ga_adr rfl rfl rfl (op_move (.base rfl))) (by kernel_rfl)) (
              AE.cons _ _ _ rfl (gh_ga [9] (ga_gd _ _ _ _ rfl rfl rfl rfl rfl (fun hg => op_ofield fld101_2 (.base rfl))) (by kernel_rfl)) (
              AE.cons _ _ _ rfl (gh_ga [9] (ga_gd _ _ _ _ rfl rfl rfl rfl rfl (fun hg => op_oload ty36 (.gd rfl hg) rfl rfl ln101_2)) (by kernel_rfl)) (
              AE.cons _ _ _ rfl (gh_ga [] (ga_gd _ _ _ _ rfl rfl rfl rfl rfl (fun hg => op_call (rkind_ok _) (.cons (.base rfl) .nil) rfl rfl)) (by kernel_rfl)) (
              AE.cons _ _ _ rfl (gh_ga [] (ga_gd _ _ _ _ rfl rfl rfl rfl rfl (fun hg => op_seql eq36 rfl rfl eg36 (.tv (.gd rfl hg)) (.tv (.gd rfl hg)))) (by kernel_rfl)) (
              AE.cons _ _ _ rfl (gh_ga [] (ga_adr rfl rfl rfl (op_pick_and (.base rfl) (.base rfl) rfl (by intro h; first | (rw [h]; rfl) | simp_all))) (by kernel_rfl)) (
              AE.cons _ _ _ rfl (gh_store ty36 (.base rfl) rfl rfl (Lens.id _) (.tv (.base rfl))) (
              AE.cons _ _ _ rfl (gh_ga [] (ga_adr rfl rfl rfl (op_assign (.base rfl))) (by kernel_rfl)) (
              AE.nil))))))))))))))))))) (by kernel_rfl) ?_
            refine jn_keep [6, 7] [6] (.cons rfl (.cons rfl .nil)) (.cons rfl .nil) ?_
            refine jn_seq (j_ret ?_)
            exact jr_fin2 Try.results59 (res_cell ty36 rfl rfl rfl (Lens.id rType)) (res_tmp rfl) ⟨rfl, rfl⟩ (svB_eq (by (try simp only [← ht]); subst_vars; first | rfl | (simp [singleT]; done) | (simp [singleT, *]; done) | (unfold singleT; (repeat' split) <;> first | rfl | omega | (simp_all; done) | (simp_all; omega) | (simp_all [allowedM]; done) | (simp_all [allowedM]; omega))))

end Go.Proofs.Ytgoggdaohdablaa
