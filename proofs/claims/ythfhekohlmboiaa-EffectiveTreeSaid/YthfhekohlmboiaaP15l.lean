import Derived.Test.YthfhekohlmboiaaP15k
import Derived.KernelRfl
namespace Go.Proofs.Ythfhekohlmboiaa
open Go.Eng
set_option maxRecDepth 100000
set_option maxHeartbeats 4000000
set_option linter.unusedVariables false
set_option linter.unusedSimpArgs false

theorem law_tree (s : TScope) (d date : Int) : Ct Try.prog 7 [.tv rScope s, .raw (.int .i64 d), .raw (.int .i64 date)] (.raw (.bool true)) := by
  refine ct_intro Try.func7 rfl rfl Try.ntmps7 rfl rfl ?_
  intro w0 ok0
  refine j_seq ?_
  refine j_region ?_
  refine jg_os _ rfl (op_box (.tv (.base rfl)) rfl rfl rfl) ?_
  refine jg_adr _ rfl _ rfl rfl (op_assign (.base rfl)) ?_
  refine jg_nil ?_
  refine jn_keep [1, 2, 3] [3] (.cons rfl (.cons rfl (.cons rfl .nil))) (.cons rfl .nil) ?_
  refine jn_seq (j_seq (j_seq ?_))
  refine j_region ?_
  refine jg_adr _ rfl _ rfl rfl (op_oload ty40 (.base rfl) rfl rfl (Lens.id _)) ?_
  refine jg_adr _ rfl _ rfl rfl (op_call (few_ok _) (.cons (.base rfl) .nil) rfl rfl) ?_
  refine jg_adr _ rfl _ rfl rfl (op_not (.base rfl)) ?_
  refine jg_nil ?_
  refine jn_keep [1, 2, 3, 16] [3] (.cons rfl (.cons rfl (.cons rfl (.cons rfl .nil)))) (.cons rfl .nil) ?_
  refine jn_seq ?_
  refine j_cond rfl (fun h1 => ?_) (fun h1 => ?_)
  · skip
    refine j_seq ?_
    refine j_region ?_
    refine jg_adr _ rfl _ rfl rfl (op_call awake_ok .nil rfl rfl) ?_
    refine jg_adr _ rfl _ rfl rfl (op_assign (.base rfl)) ?_
    refine jg_nil ?_
    refine jn_keep [6] [] (.cons rfl .nil) .nil ?_
    refine jn_seq (j_ret (jr_seq ?_))
    exact jr_fin1 Try.results7 (res_tmp rfl) rfl (rb (by first | rfl | (simp; done) | (simp [dE_t]; done)))
  · have k1 : s.2.2.2.2.length ≤ 60 := by simp at h1; omega
    refine j_skip (jn_seq (j_seq ?_))
    refine j_region ?_
    refine jg_adr _ rfl _ rfl rfl (op_oload ty40 (.base rfl) rfl rfl (Lens.id _)) ?_
    refine jg_adr _ rfl _ rfl rfl (op_move (.base rfl)) ?_
    refine jg_adr _ rfl _ rfl rfl (op_move (.base rfl)) ?_
    refine jg_adr _ rfl _ rfl rfl (op_call (treeOn_ok _ _ _ (by omega)) (.cons (.base rfl) (.cons (.base rfl) (.cons (.base rfl) .nil))) rfl rfl) ?_
    refine jg_adr _ rfl _ rfl rfl (op_move (.base rfl)) ?_
    refine jg_adr _ rfl _ rfl rfl (op_ext30 (.base rfl)) ?_
    refine jg_adr _ rfl _ rfl rfl (op_ext31 (.base rfl)) ?_
    refine jg_adr _ rfl _ rfl rfl (op_ext32 (.base rfl)) ?_
    refine jg_adr _ rfl _ rfl rfl (op_assign (.base rfl)) ?_
    refine jg_adr _ rfl _ rfl rfl (op_assign (.base rfl)) ?_
    refine jg_adr _ rfl _ rfl rfl (op_assign (.base rfl)) ?_
    refine jg_nil ?_
    refine jn_keep [1, 2, 3, 7, 8, 9] [3] (.cons rfl (.cons rfl (.cons rfl (.cons rfl (.cons rfl (.cons rfl .nil)))))) (.cons rfl .nil) ?_
    refine jn_seq (j_seq ?_)
    refine j_region ?_
    refine jg_adr _ rfl _ rfl rfl (op_oload ty40 (.base rfl) rfl rfl (Lens.id _)) ?_
    refine jg_adr _ rfl _ rfl rfl (op_move (.base rfl)) ?_
    refine jg_adr _ rfl _ rfl rfl (op_move (.base rfl)) ?_
    refine jg_adr _ rfl _ rfl rfl (op_call (rtreeOn_ok _ _ _ (by omega)) (.cons (.base rfl) (.cons (.base rfl) (.cons (.base rfl) .nil))) rfl rfl) ?_
    refine jg_adr _ rfl _ rfl rfl (op_move (.base rfl)) ?_
    refine jg_adr _ rfl _ rfl rfl (op_ext30 (.base rfl)) ?_
    refine jg_adr _ rfl _ rfl rfl (op_ext31 (.base rfl)) ?_
    refine jg_adr _ rfl _ rfl rfl (op_ext32 (.base rfl)) ?_
    refine jg_adr _ rfl _ rfl rfl (op_assign (.base rfl)) ?_
    refine jg_adr _ rfl _ rfl rfl (op_assign (.base rfl)) ?_
    refine jg_adr _ rfl _ rfl rfl (op_assign (.base rfl)) ?_
    refine jg_nil ?_
    refine jn_keep [1, 2, 3, 7, 8, 9, 10, 11, 12] [3] (.cons rfl (.cons rfl (.cons rfl (.cons rfl (.cons rfl (.cons rfl (.cons rfl (.cons rfl (.cons rfl .nil))))))))) (.cons rfl .nil) ?_
    refine jn_seq (j_seq (j_seq ?_))
    refine j_region ?_
    refine jg_adr _ rfl _ rfl rfl (op_assign (.base rfl)) ?_
    refine jg_nil ?_
    refine jn_keep [1, 2, 3, 7, 8, 9, 10, 11, 12, 13] [3] (.cons rfl (.cons rfl (.cons rfl (.cons rfl (.cons rfl (.cons rfl (.cons rfl (.cons rfl (.cons rfl (.cons rfl .nil)))))))))) (.cons rfl .nil) ?_
    refine jn_seq (j_block ?_)
    refine j_loopp (ι := Nat) (fun k => ⟨[(1, .raw (.int .i64 (d))), (2, .raw (.int .i64 (date))), (3, .optr 3 rScope.n 0 0), (7, .tv (rSlice (rInt .i64)) (idxI (fD d date) s.2.2.2.2 s.2.2.2.2.length)), (8, .tv (rSlice (rInt .i64)) (parI (fD d date) s.2.2.2.2 s.2.2.2.2.length)), (9, .tv (rSlice (rInt .i64)) (priI (fD d date) s.2.2.2.2 s.2.2.2.2.length)), (10, .tv (rSlice (rInt .i64)) (idxI (fD d date) s.2.2.2.2 s.2.2.2.2.length)), (11, .tv (rSlice (rInt .i64)) (parI (fD d date) s.2.2.2.2 s.2.2.2.2.length)), (12, .tv (rSlice (rInt .i64)) (priI (fD d date) s.2.2.2.2 s.2.2.2.2.length)), (13, .raw (.int .i64 ((k : Nat))))], [(3, ⟨rScope, [s]⟩)]⟩) (fun k => k ≤ (parI (fD d date) s.2.2.2.2 s.2.2.2.2.length).length) (fun k => (parI (fD d date) s.2.2.2.2 s.2.2.2.2.length).length - k) 0 (Nat.zero_le _) (fun a w hi => (Sub.inv ⟨(by repeat (first | exact SubS_nil | refine SubS_cons rfl (by first | rfl | (simp; done) | assumption) ?_)), (by repeat (first | exact SubH_nil | refine SubH_cons rfl (by first | rfl | (simp; done) | assumption) ?_))⟩ hi)) ?_
    rintro k hk
    have q1 := parI_len (fD d date) s.2.2.2.2 s.2.2.2.2.length
    have q2 := idxs_len (fD d date) s.2.2.2.2 s.2.2.2.2.length
    refine j_seq (j_seq ?_)
    refine j_region ?_
    refine jg_adr _ rfl _ rfl rfl (op_move (.base rfl)) ?_
    refine jg_adr _ rfl _ rfl rfl (op_move (.base rfl)) ?_
    refine jg_adr _ rfl _ rfl rfl (op_len Try.underlying32 (.base rfl)) ?_
    refine jg_adr _ rfl _ rfl rfl (op_lss (.base rfl) (.base rfl)) ?_
    refine jg_nil ?_
    refine jn_keep [1, 2, 3, 7, 8, 9, 10, 11, 12, 13, 37] [3] (.cons rfl (.cons rfl (.cons rfl (.cons rfl (.cons rfl (.cons rfl (.cons rfl (.cons rfl (.cons rfl (.cons rfl (.cons rfl .nil))))))))))) (.cons rfl .nil) ?_
    refine jn_seq ?_
    refine j_cond rfl (fun h6 => ?_) (fun h6 => ?_)
    · simp at h6
      have hpk := parI_ok h6
      refine j_skip (jn_seq (j_seq (j_block (j_seq ?_))))
      refine j_region ?_
      refine jg_adr _ rfl _ rfl rfl (op_move (.base rfl)) ?_
      refine jg_adr _ rfl _ rfl rfl (op_move (.base rfl)) ?_
      refine jg_adr _ rfl _ rfl rfl (op_index Try.underlying32 ty3 (.base rfl) (.base rfl) rfl (List.getElem?_eq_getElem (by first | omega | (simp; done) | (simp; omega) | (simp at hg; omega)))) ?_
      refine jg_adr _ rfl _ rfl rfl (op_load ty3 (.base rfl)) ?_
      refine jg_adr _ rfl _ rfl rfl (op_lss (.base rfl) (.base rfl)) ?_
      refine jg_adr _ rfl _ rfl rfl (op_move (.base rfl)) ?_
      refine jg_gd _ _ _ _ _ _ rfl rfl rfl rfl rfl (fun hg => op_move (.base rfl)) ?_
      refine jg_gd _ _ _ _ _ _ rfl rfl rfl rfl rfl (fun hg => op_move (.base rfl)) ?_
      refine jg_gd _ _ _ _ _ _ rfl rfl rfl rfl rfl (fun hg => op_index Try.underlying32 ty3 (.gd rfl hg) (.gd rfl hg) rfl (getD_some (z := (0 : Int)) (by first | omega | (simp; done) | (simp; omega) | (simp at hg; omega) | (simp at hg; simp; omega)))) ?_
      refine jg_gd _ _ _ _ _ _ rfl rfl rfl rfl rfl (fun hg => op_load ty3 (.gd rfl hg)) ?_
      refine jg_gd _ _ _ _ _ _ rfl rfl rfl rfl rfl (fun hg => op_move (.base rfl)) ?_
      refine jg_gd _ _ _ _ _ _ rfl rfl rfl rfl rfl (fun hg => op_geq (.gd rfl hg) (.gd rfl hg)) ?_
      refine jg_adr _ rfl _ rfl rfl (op_pick_or (.base rfl) (.base rfl) rfl (by intro h; first | (rw [h]; rfl) | (rw [hg, h]; rfl) | (rw [h, hg]; rfl) | simp_all)) ?_
      refine jg_nil ?_
      refine jn_keep [1, 2, 3, 7, 8, 9, 10, 11, 12, 13, 52] [3] (.cons rfl (.cons rfl (.cons rfl (.cons rfl (.cons rfl (.cons rfl (.cons rfl (.cons rfl (.cons rfl (.cons rfl (.cons rfl .nil))))))))))) (.cons rfl .nil) ?_
      refine jn_seq ?_
      refine j_cond rfl (fun h8 => ?_) (fun h8 => ?_)
      · exfalso; simp [List.getElem?_eq_getElem h6] at h8; omega
      · try simp at h8
        refine j_skip (jn_blk (jn_seq ?_))
        refine j_region ?_
        refine jg_adr _ rfl _ rfl rfl (op_move (.base rfl)) ?_
        refine jg_adr _ rfl _ rfl rfl (op_add (.base rfl) (.base rfl) (w64 (by omega))) ?_
        refine jg_adr _ rfl _ rfl rfl (op_assign (.base rfl)) ?_
        refine jg_nil ?_
        refine jn_keep [1, 2, 3, 7, 8, 9, 10, 11, 12, 13] [3] (.cons rfl (.cons rfl (.cons rfl (.cons rfl (.cons rfl (.cons rfl (.cons rfl (.cons rfl (.cons rfl (.cons rfl .nil)))))))))) (.cons rfl .nil) ?_
        exact jn_loop (fun a w hi => ⟨k + 1, (by first | omega | (simp; omega)), (by omega), (Sub.inv ⟨(by repeat (first | exact SubS_nil | refine SubS_cons rfl (by first | rfl | (simp; done) | assumption) ?_)), (by repeat (first | exact SubH_nil | refine SubH_cons rfl (by first | rfl | (simp; done) | assumption) ?_))⟩ hi)⟩)
    · simp at h6
      refine j_exit (je_seq (je_loop (je_blk (jn_seq (j_seq ?_)))))
      refine j_region ?_
      refine jg_adr _ rfl _ rfl rfl (op_oload ty40 (.base rfl) rfl rfl (Lens.id _)) ?_
      refine jg_adr _ rfl _ rfl rfl (op_move (.base rfl)) ?_
      refine jg_adr _ rfl _ rfl rfl (op_move (.base rfl)) ?_
      refine jg_adr _ rfl _ rfl rfl (op_call (rulesOn_ok _ _ _ (by omega)) (.cons (.base rfl) (.cons (.base rfl) (.cons (.base rfl) .nil))) rfl rfl) ?_
      refine jg_adr _ rfl _ rfl rfl (op_move (.base rfl)) ?_
      refine jg_adr _ rfl _ rfl rfl (op_call (same_ints _ _) (.cons (.base rfl) (.cons (.base rfl) .nil)) rfl rfl) ?_
      refine jg_adr _ rfl _ rfl rfl (op_move (.base rfl)) ?_
      refine jg_gd _ _ _ _ _ _ rfl rfl rfl rfl rfl (fun hg => op_move (.base rfl)) ?_
      refine jg_gd _ _ _ _ _ _ rfl rfl rfl rfl rfl (fun hg => op_move (.base rfl)) ?_
      refine jg_gd _ _ _ _ _ _ rfl rfl rfl rfl rfl (fun hg => op_call (same_ints _ _) (.cons (.gd rfl hg) (.cons (.gd rfl hg) .nil)) rfl rfl) ?_
      refine jg_adr _ rfl _ rfl rfl (op_pick_and (.base rfl) (.base rfl) rfl (by intro h; first | (rw [h]; rfl) | (rw [hg, h]; rfl) | (rw [h, hg]; rfl) | simp_all)) ?_
      refine jg_adr _ rfl _ rfl rfl (op_move (.base rfl)) ?_
      refine jg_gd _ _ _ _ _ _ rfl rfl rfl rfl rfl (fun hg => op_move (.base rfl)) ?_
      refine jg_gd _ _ _ _ _ _ rfl rfl rfl rfl rfl (fun hg => op_move (.base rfl)) ?_
      refine jg_gd _ _ _ _ _ _ rfl rfl rfl rfl rfl (fun hg => op_call (same_ints _ _) (.cons (.gd rfl hg) (.cons (.gd rfl hg) .nil)) rfl rfl) ?_
      refine jg_adr _ rfl _ rfl rfl (op_pick_and (.base rfl) (.base rfl) rfl (by intro h; first | (rw [h]; rfl) | (rw [hg, h]; rfl) | (rw [h, hg]; rfl) | simp_all)) ?_
      refine jg_adr _ rfl _ rfl rfl (op_move (.base rfl)) ?_
      refine jg_gd _ _ _ _ _ _ rfl rfl rfl rfl rfl (fun hg => op_move (.base rfl)) ?_
      refine jg_gd _ _ _ _ _ _ rfl rfl rfl rfl rfl (fun hg => op_move (.base rfl)) ?_
      refine jg_gd _ _ _ _ _ _ rfl rfl rfl rfl rfl (fun hg => op_call (same_ints _ _) (.cons (.gd rfl hg) (.cons (.gd rfl hg) .nil)) rfl rfl) ?_
      refine jg_adr _ rfl _ rfl rfl (op_pick_and (.base rfl) (.base rfl) rfl (by intro h; first | (rw [h]; rfl) | (rw [hg, h]; rfl) | (rw [h, hg]; rfl) | simp_all)) ?_
      refine jg_adr _ rfl _ rfl rfl (op_move (.base rfl)) ?_
      refine jg_gd _ _ _ _ _ _ rfl rfl rfl rfl rfl (fun hg => op_call awake_ok .nil rfl rfl) ?_
      refine jg_adr _ rfl _ rfl rfl (op_pick_and (.base rfl) (.base rfl) rfl (by intro h; first | (rw [h]; rfl) | (rw [hg, h]; rfl) | (rw [h, hg]; rfl) | simp_all)) ?_
      refine jg_adr _ rfl _ rfl rfl (op_assign (.base rfl)) ?_
      refine jg_nil ?_
      refine jn_keep [6] [] (.cons rfl .nil) .nil ?_
      refine jn_seq (j_ret ?_)
      exact jr_fin1 Try.results7 (res_tmp rfl) rfl (rb (by first | rfl | (simp; done) | (simp [dE_t]; done)))

theorem law_law (l : TLaw) (date : Int) (hw : WL l) : Ct Try.prog 3 [.tv rLaw l, .raw (.int .i64 date)] (.raw (.bool true)) := by
  refine ct_intro Try.func3 rfl rfl Try.ntmps3 rfl rfl ?_
  intro w0 ok0
  refine j_seq ?_
  refine j_region ?_
  refine jg_os _ rfl (op_box (.tv (.base rfl)) rfl rfl rfl) ?_
  refine jg_adr _ rfl _ rfl rfl (op_assign (.base rfl)) ?_
  refine jg_nil ?_
  refine jn_keep [1, 2] [2] (.cons rfl (.cons rfl .nil)) (.cons rfl .nil) ?_
  refine jn_seq (j_seq (j_seq ?_))
  refine j_region ?_
  refine jg_adr _ rfl _ rfl rfl (op_oload ty26 (.base rfl) rfl rfl (Lens.id _)) ?_
  refine jg_adr _ rfl _ rfl rfl (op_call (smallL_ok _ hw) (.cons (.base rfl) .nil) rfl rfl) ?_
  refine jg_adr _ rfl _ rfl rfl (op_not (.base rfl)) ?_
  refine jg_nil ?_
  refine jn_keep [1, 2, 7] [2] (.cons rfl (.cons rfl (.cons rfl .nil))) (.cons rfl .nil) ?_
  refine jn_seq ?_
  refine j_cond rfl (fun h1 => ?_) (fun h1 => ?_)
  · skip
    refine j_seq ?_
    refine j_region ?_
    refine jg_adr _ rfl _ rfl rfl (op_call awake_ok .nil rfl rfl) ?_
    refine jg_adr _ rfl _ rfl rfl (op_assign (.base rfl)) ?_
    refine jg_nil ?_
    refine jn_keep [4] [] (.cons rfl .nil) .nil ?_
    refine jn_seq (j_ret (jr_seq ?_))
    exact jr_fin1 Try.results3 (res_tmp rfl) rfl (rb (by first | rfl | (simp; done) | (simp [dE_t]; done)))
  · simp at h1
    obtain ⟨hl, hL, hT, hS⟩ := smL_lim (dB_iff.1 h1)
    refine j_skip (jn_seq (j_seq ?_))
    refine j_draw mo (by kernel_rfl) (
      AS.cons _ _ rfl (ga_adr rfl rfl rfl (op_oload ty26 (.base rfl) rfl rfl (Lens.id _))) (
        AS.cons _ _ rfl (ga_adr rfl rfl rfl (op_move (.base rfl))) (
        AS.cons _ _ rfl (ga_adr rfl rfl rfl (op_call (lawOn_ok _ _ hl) (.cons (.base rfl) (.cons (.base rfl) .nil)) rfl rfl)) (
        AS.cons _ _ rfl (ga_adr rfl rfl rfl (op_oload ty26 (.base rfl) rfl rfl (Lens.id _))) (
        AS.cons _ _ rfl (ga_adr rfl rfl rfl (op_move (.base rfl))) (
        AS.cons _ _ rfl (ga_adr rfl rfl rfl (op_call (rlawOn_ok _ _ hl) (.cons (.base rfl) (.cons (.base rfl) .nil)) rfl rfl)) (
        AS.cons _ _ rfl (ga_adr rfl rfl rfl (op_call (same_law _ _) (.cons (.base rfl) (.cons (.base rfl) .nil)) rfl rfl)) (
        AS.cons _ _ rfl (ga_adr rfl rfl rfl (op_move (.base rfl))) (
        AS.cons _ _ rfl (ga_gd _ _ _ _ rfl rfl rfl rfl rfl (fun hg => op_oload ty26 (.base rfl) rfl rfl (Lens.id _))) (
        AS.cons _ _ rfl (ga_gd _ _ _ _ rfl rfl rfl rfl rfl (fun hg => op_call (chg_ok _ hL hT hS) (.cons (.gd rfl hg) .nil) rfl rfl)) (
        AS.cons _ _ rfl (ga_gd _ _ _ _ rfl rfl rfl rfl rfl (fun hg => op_oload ty26 (.base rfl) rfl rfl (Lens.id _))) (
        AS.cons _ _ rfl (ga_gd _ _ _ _ rfl rfl rfl rfl rfl (fun hg => op_call (rchg_ok _ hL hT hS) (.cons (.gd rfl hg) .nil) rfl rfl)) (
        AS.cons _ _ rfl (ga_gd _ _ _ _ rfl rfl rfl rfl rfl (fun hg => op_call (same_ints _ _) (.cons (.gd rfl hg) (.cons (.gd rfl hg) .nil)) rfl rfl)) (
        AS.cons _ _ rfl (ga_adr rfl rfl rfl (op_pick_and (.base rfl) (.base rfl) rfl (by intro h; first | (rw [h]; rfl) | (rw [hg, h]; rfl) | (rw [h, hg]; rfl) | simp_all))) (
        AS.cons _ _ rfl (ga_adr rfl rfl rfl (op_move (.base rfl))) (
        AS.cons _ _ rfl (ga_gd _ _ _ _ rfl rfl rfl rfl rfl (fun hg => op_call awake_ok .nil rfl rfl)) (
        AS.cons _ _ rfl (ga_adr rfl rfl rfl (op_pick_and (.base rfl) (.base rfl) rfl (by intro h; first | (rw [h]; rfl) | (rw [hg, h]; rfl) | (rw [h, hg]; rfl) | simp_all))) (
        AS.cons _ _ rfl (ga_adr rfl rfl rfl (op_assign (.base rfl))) (
        AS.nil))))))))))))))))))) ?_
    refine jn_keep [4] [] (.cons rfl .nil) .nil ?_
    refine jn_seq (j_ret ?_)
    exact jr_fin1 Try.results3 (res_tmp rfl) rfl (rb (by first | rfl | (simp; done) | (simp [dE_t]; done)))


theorem chgon_ok {a : Int} {l : TLaw} (hL : (rngL l).length ≤ 10000) (hT : l.2.1.length ≤ 100000) (hS : l.2.2.length ≤ 100000) : Ct Try.prog 15 [.tv rLaw (lawOn a l)] (.tv (rSlice (rInt .i64)) []) := by
  have h := chg_ok (lawOn a l) (Nat.le_trans (rngL_on a l) hL) (by simpa [lawOn] using hT) (by simpa [lawOn] using hS)
  rwa [chg_on] at h
theorem lawfix_ok {a b : Int} {l : TLaw} (h0 : 0 ≤ b) (h1 : b ≤ 109572) (hl : LLim l) : Ct Try.prog 12 [.tv rLaw (lawOn a l), .raw (.int .i64 b)] (.tv rLaw (lawOn a l)) := by
  have h := lawOn_ok (lawOn a l) b (lawOn_lim hl)
  rwa [lawOn_fix h0 h1] at h

theorem law_idem (l : TLaw) (a b : Int) (hw : WL l) : Ct Try.prog 5 [.tv rLaw l, .raw (.int .i64 a), .raw (.int .i64 b)] (.raw (.bool true)) := by
  refine ct_intro Try.func5 rfl rfl Try.ntmps5 rfl rfl ?_
  intro w0 ok0
  refine j_seq ?_
  refine j_region ?_
  refine jg_os _ rfl (op_box (.tv (.base rfl)) rfl rfl rfl) ?_
  refine jg_adr _ rfl _ rfl rfl (op_assign (.base rfl)) ?_
  refine jg_nil ?_
  refine jn_keep [1, 2, 3] [3] (.cons rfl (.cons rfl (.cons rfl .nil))) (.cons rfl .nil) ?_
  refine jn_seq (j_seq (j_seq ?_))
  refine j_region ?_
  refine jg_adr _ rfl _ rfl rfl (op_oload ty26 (.base rfl) rfl rfl (Lens.id _)) ?_
  refine jg_adr _ rfl _ rfl rfl (op_call (smallL_ok _ hw) (.cons (.base rfl) .nil) rfl rfl) ?_
  refine jg_adr _ rfl _ rfl rfl (op_not (.base rfl)) ?_
  refine jg_adr _ rfl _ rfl rfl (op_move (.base rfl)) ?_
  refine jg_gd _ _ _ _ _ _ rfl rfl rfl rfl rfl (fun hg => op_move (.base rfl)) ?_
  refine jg_gd _ _ _ _ _ _ rfl rfl rfl rfl rfl (fun hg => op_lss (.gd rfl hg) (.base rfl)) ?_
  refine jg_adr _ rfl _ rfl rfl (op_pick_or (.base rfl) (.base rfl) rfl (by intro h; first | (rw [h]; rfl) | (rw [hg, h]; rfl) | (rw [h, hg]; rfl) | simp_all)) ?_
  refine jg_adr _ rfl _ rfl rfl (op_move (.base rfl)) ?_
  refine jg_gd _ _ _ _ _ _ rfl rfl rfl rfl rfl (fun hg => op_move (.base rfl)) ?_
  refine jg_gd _ _ _ _ _ _ rfl rfl rfl rfl rfl (fun hg => op_gtr (.gd rfl hg) (.base rfl)) ?_
  refine jg_adr _ rfl _ rfl rfl (op_pick_or (.base rfl) (.base rfl) rfl (by intro h; first | (rw [h]; rfl) | (rw [hg, h]; rfl) | (rw [h, hg]; rfl) | simp_all)) ?_
  refine jg_nil ?_
  refine jn_keep [1, 2, 3, 18] [3] (.cons rfl (.cons rfl (.cons rfl (.cons rfl .nil)))) (.cons rfl .nil) ?_
  refine jn_seq ?_
  refine j_cond rfl (fun h1 => ?_) (fun h1 => ?_)
  · skip
    refine j_seq ?_
    refine j_region ?_
    refine jg_adr _ rfl _ rfl rfl (op_call awake_ok .nil rfl rfl) ?_
    refine jg_adr _ rfl _ rfl rfl (op_assign (.base rfl)) ?_
    refine jg_nil ?_
    refine jn_keep [6] [] (.cons rfl .nil) .nil ?_
    refine jn_seq (j_ret (jr_seq ?_))
    exact jr_fin1 Try.results5 (res_tmp rfl) rfl (rb (by first | rfl | (simp; done) | (simp [dE_t]; done)))
  · have h1 : dB (SmL l) = true ∧ 0 ≤ b ∧ b ≤ 109572 := by simp at h1; refine ⟨h1.1.1, by omega⟩
    obtain ⟨hl, hL, hT, hS⟩ := smL_lim (dB_iff.1 h1.1)
    have h1 := h1.2
    refine j_skip (jn_seq (j_seq ?_))
    refine j_region ?_
    refine jg_adr _ rfl _ rfl rfl (op_oload ty26 (.base rfl) rfl rfl (Lens.id _)) ?_
    refine jg_adr _ rfl _ rfl rfl (op_move (.base rfl)) ?_
    refine jg_adr _ rfl _ rfl rfl (op_call (lawOn_ok _ _ hl) (.cons (.base rfl) (.cons (.base rfl) .nil)) rfl rfl) ?_
    refine jg_os _ rfl (op_alloc _ z26 rfl rfl rfl) ?_
    refine jg_os _ rfl (op_ostore ty26 (.base rfl) rfl rfl (Lens.id _) (.tv (.base rfl))) ?_
    refine jg_nil ?_
    refine jn_keep [2, 7] [7] (.cons rfl (.cons rfl .nil)) (.cons rfl .nil) ?_
    refine jn_seq (j_seq ?_)
    refine j_draw mo (by kernel_rfl) (
      AS.cons _ _ rfl (ga_adr rfl rfl rfl (op_oload ty26 (.base rfl) rfl rfl (Lens.id _))) (
        AS.cons _ _ rfl (ga_adr rfl rfl rfl (op_call (chgon_ok hL hT hS) (.cons (.base rfl) .nil) rfl rfl)) (
        AS.cons _ _ rfl (ga_adr rfl rfl rfl (op_len Try.underlying32 (.base rfl))) (
        AS.cons _ _ rfl (ga_adr rfl rfl rfl (op_eql (.base rfl) (.base rfl))) (
        AS.cons _ _ rfl (ga_adr rfl rfl rfl (op_move (.base rfl))) (
        AS.cons _ _ rfl (ga_gd _ _ _ _ rfl rfl rfl rfl rfl (fun hg => op_oload ty26 (.base rfl) rfl rfl (Lens.id _))) (
        AS.cons _ _ rfl (ga_gd _ _ _ _ rfl rfl rfl rfl rfl (fun hg => op_move (.base rfl))) (
        AS.cons _ _ rfl (ga_gd _ _ _ _ rfl rfl rfl rfl rfl (fun hg => op_call (lawfix_ok h1.1 h1.2 hl) (.cons (.gd rfl hg) (.cons (.gd rfl hg) .nil)) rfl rfl)) (
        AS.cons _ _ rfl (ga_gd _ _ _ _ rfl rfl rfl rfl rfl (fun hg => op_oload ty26 (.base rfl) rfl rfl (Lens.id _))) (
        AS.cons _ _ rfl (ga_gd _ _ _ _ rfl rfl rfl rfl rfl (fun hg => op_call (same_law _ _) (.cons (.gd rfl hg) (.cons (.gd rfl hg) .nil)) rfl rfl)) (
        AS.cons _ _ rfl (ga_adr rfl rfl rfl (op_pick_and (.base rfl) (.base rfl) rfl (by intro h; first | (rw [h]; rfl) | (rw [hg, h]; rfl) | (rw [h, hg]; rfl) | simp_all))) (
        AS.cons _ _ rfl (ga_adr rfl rfl rfl (op_move (.base rfl))) (
        AS.cons _ _ rfl (ga_gd _ _ _ _ rfl rfl rfl rfl rfl (fun hg => op_call awake_ok .nil rfl rfl)) (
        AS.cons _ _ rfl (ga_adr rfl rfl rfl (op_pick_and (.base rfl) (.base rfl) rfl (by intro h; first | (rw [h]; rfl) | (rw [hg, h]; rfl) | (rw [h, hg]; rfl) | simp_all))) (
        AS.cons _ _ rfl (ga_adr rfl rfl rfl (op_assign (.base rfl))) (
        AS.nil)))))))))))))))) ?_
    refine jn_keep [6] [] (.cons rfl .nil) .nil ?_
    refine jn_seq (j_ret ?_)
    exact jr_fin1 Try.results5 (res_tmp rfl) rfl (rb (by first | rfl | (simp; done) | (simp [dE_t]; done)))

theorem law_stable (l : TLaw) (a b d : Int) (hw : WL l) : Ct Try.prog 4 [.tv rLaw l, .raw (.int .i64 a), .raw (.int .i64 b), .raw (.int .i64 d)] (.raw (.bool true)) := by
  refine ct_intro Try.func4 rfl rfl Try.ntmps4 rfl rfl ?_
  intro w0 ok0
  refine j_seq ?_
  refine j_region ?_
  refine jg_os _ rfl (op_box (.tv (.base rfl)) rfl rfl rfl) ?_
  refine jg_adr _ rfl _ rfl rfl (op_assign (.base rfl)) ?_
  refine jg_nil ?_
  refine jn_keep [1, 2, 3, 4] [4] (.cons rfl (.cons rfl (.cons rfl (.cons rfl .nil)))) (.cons rfl .nil) ?_
  refine jn_seq (j_seq (j_seq ?_))
  refine j_region ?_
  refine jg_adr _ rfl _ rfl rfl (op_oload ty26 (.base rfl) rfl rfl (Lens.id _)) ?_
  refine jg_adr _ rfl _ rfl rfl (op_call (smallL_ok _ hw) (.cons (.base rfl) .nil) rfl rfl) ?_
  refine jg_adr _ rfl _ rfl rfl (op_not (.base rfl)) ?_
  refine jg_adr _ rfl _ rfl rfl (op_move (.base rfl)) ?_
  refine jg_gd _ _ _ _ _ _ rfl rfl rfl rfl rfl (fun hg => op_move (.base rfl)) ?_
  refine jg_gd _ _ _ _ _ _ rfl rfl rfl rfl rfl (fun hg => op_lss (.gd rfl hg) (.base rfl)) ?_
  refine jg_adr _ rfl _ rfl rfl (op_pick_or (.base rfl) (.base rfl) rfl (by intro h; first | (rw [h]; rfl) | (rw [hg, h]; rfl) | (rw [h, hg]; rfl) | simp_all)) ?_
  refine jg_adr _ rfl _ rfl rfl (op_move (.base rfl)) ?_
  refine jg_gd _ _ _ _ _ _ rfl rfl rfl rfl rfl (fun hg => op_move (.base rfl)) ?_
  refine jg_gd _ _ _ _ _ _ rfl rfl rfl rfl rfl (fun hg => op_move (.base rfl)) ?_
  refine jg_gd _ _ _ _ _ _ rfl rfl rfl rfl rfl (fun hg => op_gtr (.gd rfl hg) (.gd rfl hg)) ?_
  refine jg_adr _ rfl _ rfl rfl (op_pick_or (.base rfl) (.base rfl) rfl (by intro h; first | (rw [h]; rfl) | (rw [hg, h]; rfl) | (rw [h, hg]; rfl) | simp_all)) ?_
  refine jg_adr _ rfl _ rfl rfl (op_move (.base rfl)) ?_
  refine jg_gd _ _ _ _ _ _ rfl rfl rfl rfl rfl (fun hg => op_move (.base rfl)) ?_
  refine jg_gd _ _ _ _ _ _ rfl rfl rfl rfl rfl (fun hg => op_gtr (.gd rfl hg) (.base rfl)) ?_
  refine jg_adr _ rfl _ rfl rfl (op_pick_or (.base rfl) (.base rfl) rfl (by intro h; first | (rw [h]; rfl) | (rw [hg, h]; rfl) | (rw [h, hg]; rfl) | simp_all)) ?_
  refine jg_nil ?_
  refine jn_keep [1, 2, 3, 4, 33] [4] (.cons rfl (.cons rfl (.cons rfl (.cons rfl (.cons rfl .nil))))) (.cons rfl .nil) ?_
  refine jn_seq ?_
  refine j_cond rfl (fun h1 => ?_) (fun h1 => ?_)
  · skip
    refine j_seq ?_
    refine j_region ?_
    refine jg_adr _ rfl _ rfl rfl (op_call awake_ok .nil rfl rfl) ?_
    refine jg_adr _ rfl _ rfl rfl (op_assign (.base rfl)) ?_
    refine jg_nil ?_
    refine jn_keep [8] [] (.cons rfl .nil) .nil ?_
    refine jn_seq (j_ret (jr_seq ?_))
    exact jr_fin1 Try.results4 (res_tmp rfl) rfl (rb (by first | rfl | (simp; done) | (simp [dE_t]; done)))
  · have h1 : dB (SmL l) = true ∧ 0 ≤ a ∧ a ≤ b ∧ b ≤ 109572 := by simp at h1; refine ⟨h1.1.1.1, by omega⟩
    obtain ⟨hl, hL, hT, hS⟩ := smL_lim (dB_iff.1 h1.1)
    have h1 := h1.2
    refine j_skip (jn_seq (j_seq ?_))
    refine j_region ?_
    refine jg_adr _ rfl _ rfl rfl (op_oload ty26 (.base rfl) rfl rfl (Lens.id _)) ?_
    refine jg_adr _ rfl _ rfl rfl (op_call (chg_ok _ hL hT hS) (.cons (.base rfl) .nil) rfl rfl) ?_
    refine jg_adr _ rfl _ rfl rfl (op_assign (.base rfl)) ?_
    refine jg_nil ?_
    refine jn_keep [1, 2, 3, 4, 9] [4] (.cons rfl (.cons rfl (.cons rfl (.cons rfl (.cons rfl .nil))))) (.cons rfl .nil) ?_
    refine jn_seq (j_seq (j_seq ?_))
    refine j_region ?_
    refine jg_adr _ rfl _ rfl rfl (op_assign (.base rfl)) ?_
    refine jg_nil ?_
    refine jn_keep [1, 2, 3, 4, 9, 10] [4] (.cons rfl (.cons rfl (.cons rfl (.cons rfl (.cons rfl (.cons rfl .nil)))))) (.cons rfl .nil) ?_
    refine jn_seq (j_block ?_)
    refine j_loopp (ι := Nat) (fun k => ⟨[(1, .raw (.int .i64 (a))), (2, .raw (.int .i64 (b))), (3, .raw (.int .i64 (d))), (4, .optr 4 rLaw.n 0 0), (9, .tv (rSlice (rInt .i64)) (chgR (rngL l))), (10, .raw (.int .i64 ((k : Nat))))], [(4, ⟨rLaw, [l]⟩)]⟩) (fun k => k ≤ (chgR (rngL l)).length ∧ ∀ x ∈ (chgR (rngL l)).take k, ¬ (a < x ∧ x ≤ b)) (fun k => (chgR (rngL l)).length - k) 0 (⟨Nat.zero_le _, all_0 _⟩) (fun a w hi => (Sub.inv ⟨(by repeat (first | exact SubS_nil | refine SubS_cons rfl (by first | rfl | (simp; done) | assumption) ?_)), (by repeat (first | exact SubH_nil | refine SubH_cons rfl (by first | rfl | (simp; done) | assumption) ?_))⟩ hi)) ?_
    rintro k ⟨hk, hp⟩
    have h1u := uniqS_len (bnd (rngL l))
    have h2u := bnd_len (rngL l)
    have h3u := kept_len (uniqS (bnd (rngL l)))
    have h4u : (chgR (rngL l)).length ≤ 20000 := by unfold chgR; omega
    refine j_seq (j_seq ?_)
    refine j_region ?_
    refine jg_adr _ rfl _ rfl rfl (op_move (.base rfl)) ?_
    refine jg_adr _ rfl _ rfl rfl (op_move (.base rfl)) ?_
    refine jg_adr _ rfl _ rfl rfl (op_len Try.underlying32 (.base rfl)) ?_
    refine jg_adr _ rfl _ rfl rfl (op_lss (.base rfl) (.base rfl)) ?_
    refine jg_nil ?_
    refine jn_keep [1, 2, 3, 4, 9, 10, 40] [4] (.cons rfl (.cons rfl (.cons rfl (.cons rfl (.cons rfl (.cons rfl (.cons rfl .nil))))))) (.cons rfl .nil) ?_
    refine jn_seq ?_
    refine j_cond rfl (fun h5 => ?_) (fun h5 => ?_)
    · simp at h5
      refine j_skip (jn_seq (j_seq (j_block (j_seq ?_))))
      refine j_region ?_
      refine jg_adr _ rfl _ rfl rfl (op_move (.base rfl)) ?_
      refine jg_adr _ rfl _ rfl rfl (op_move (.base rfl)) ?_
      refine jg_adr _ rfl _ rfl rfl (op_move (.base rfl)) ?_
      refine jg_adr _ rfl _ rfl rfl (op_index Try.underlying32 ty3 (.base rfl) (.base rfl) rfl (List.getElem?_eq_getElem (by first | omega | (simp; done) | (simp; omega) | (simp at hg; omega)))) ?_
      refine jg_adr _ rfl _ rfl rfl (op_load ty3 (.base rfl)) ?_
      refine jg_adr _ rfl _ rfl rfl (op_lss (.base rfl) (.base rfl)) ?_
      refine jg_adr _ rfl _ rfl rfl (op_move (.base rfl)) ?_
      refine jg_gd _ _ _ _ _ _ rfl rfl rfl rfl rfl (fun hg => op_move (.base rfl)) ?_
      refine jg_gd _ _ _ _ _ _ rfl rfl rfl rfl rfl (fun hg => op_move (.base rfl)) ?_
      refine jg_gd _ _ _ _ _ _ rfl rfl rfl rfl rfl (fun hg => op_index Try.underlying32 ty3 (.gd rfl hg) (.gd rfl hg) rfl (getD_some (z := (0 : Int)) (by first | omega | (simp; done) | (simp; omega) | (simp at hg; omega) | (simp at hg; simp; omega)))) ?_
      refine jg_gd _ _ _ _ _ _ rfl rfl rfl rfl rfl (fun hg => op_load ty3 (.gd rfl hg)) ?_
      refine jg_gd _ _ _ _ _ _ rfl rfl rfl rfl rfl (fun hg => op_move (.base rfl)) ?_
      refine jg_gd _ _ _ _ _ _ rfl rfl rfl rfl rfl (fun hg => op_leq (.gd rfl hg) (.gd rfl hg)) ?_
      refine jg_adr _ rfl _ rfl rfl (op_pick_and (.base rfl) (.base rfl) rfl (by intro h; first | (rw [h]; rfl) | (rw [hg, h]; rfl) | (rw [h, hg]; rfl) | simp_all)) ?_
      refine jg_nil ?_
      refine jn_keep [1, 2, 3, 4, 9, 10, 56] [4] (.cons rfl (.cons rfl (.cons rfl (.cons rfl (.cons rfl (.cons rfl (.cons rfl .nil))))))) (.cons rfl .nil) ?_
      refine jn_seq ?_
      refine j_cond rfl (fun h7 => ?_) (fun h7 => ?_)
      · skip
        refine j_seq ?_
        refine j_region ?_
        refine jg_adr _ rfl _ rfl rfl (op_call awake_ok .nil rfl rfl) ?_
        refine jg_adr _ rfl _ rfl rfl (op_assign (.base rfl)) ?_
        refine jg_nil ?_
        refine jn_keep [8] [] (.cons rfl .nil) .nil ?_
        refine jn_seq (j_ret (jr_blk (jr_seq (jr_loop (jr_blk (jr_seq ?_))))))
        exact jr_fin1 Try.results4 (res_tmp rfl) rfl (rb (by first | rfl | (simp; done) | (simp [dE_t]; done)))
      · have h7 : ¬ (a < (chgR (rngL l))[k] ∧ (chgR (rngL l))[k] ≤ b) := by intro q; first | (simp [List.getElem?_eq_getElem h5, q.1, q.2] at h7; done) | (simp [List.getElem?_eq_getElem h5, q.1, q.2] at h7; omega)
        refine j_skip (jn_blk (jn_seq ?_))
        refine j_region ?_
        refine jg_adr _ rfl _ rfl rfl (op_move (.base rfl)) ?_
        refine jg_adr _ rfl _ rfl rfl (op_add (.base rfl) (.base rfl) (w64 (by omega))) ?_
        refine jg_adr _ rfl _ rfl rfl (op_assign (.base rfl)) ?_
        refine jg_nil ?_
        refine jn_keep [1, 2, 3, 4, 9, 10] [4] (.cons rfl (.cons rfl (.cons rfl (.cons rfl (.cons rfl (.cons rfl .nil)))))) (.cons rfl .nil) ?_
        exact jn_loop (fun a w hi => ⟨k + 1, (by first | omega | (simp; omega)), (⟨by omega, all_succ h5 hp h7⟩), (Sub.inv ⟨(by repeat (first | exact SubS_nil | refine SubS_cons rfl (by first | rfl | (simp; done) | assumption) ?_)), (by repeat (first | exact SubH_nil | refine SubH_cons rfl (by first | rfl | (simp; done) | assumption) ?_))⟩ hi)⟩)
    · simp at h5
      refine j_exit (je_seq (je_loop (je_blk (jn_seq (j_seq (j_seq ?_))))))
      have hsame := cont_same h1.1 h1.2.1 h1.2.2 (all_end (by omega) hp)
      refine j_region ?_
      refine jg_adr _ rfl _ rfl rfl (op_assign (.base rfl)) ?_
      refine jg_nil ?_
      refine jn_keep [1, 2, 3, 4, 11] [4] (.cons rfl (.cons rfl (.cons rfl (.cons rfl (.cons rfl .nil))))) (.cons rfl .nil) ?_
      refine jn_seq (j_block ?_)
      refine j_loopp (ι := Nat) (fun j => ⟨[(1, .raw (.int .i64 (a))), (2, .raw (.int .i64 (b))), (3, .raw (.int .i64 (d))), (4, .optr 4 rLaw.n 0 0), (11, .raw (.int .i64 ((j : Nat))))], [(4, ⟨rLaw, [l]⟩)]⟩) (fun j => j ≤ l.2.2.length) (fun j => l.2.2.length - j) 0 (Nat.zero_le _) (fun a w hi => (Sub.inv ⟨(by repeat (first | exact SubS_nil | refine SubS_cons rfl (by first | rfl | (simp; done) | assumption) ?_)), (by repeat (first | exact SubH_nil | refine SubH_cons rfl (by first | rfl | (simp; done) | assumption) ?_))⟩ hi)) ?_
      rintro j hj
      refine j_seq (j_seq ?_)
      refine j_region ?_
      refine jg_adr _ rfl _ rfl rfl (op_move (.base rfl)) ?_
      refine jg_adr _ rfl _ rfl rfl (op_ofield fld26_2 (.base rfl)) ?_
      refine jg_adr _ rfl _ rfl rfl (op_oload ty24 (.base rfl) rfl rfl ln26_2) ?_
      refine jg_adr _ rfl _ rfl rfl (op_len Try.underlying24 (.base rfl)) ?_
      refine jg_adr _ rfl _ rfl rfl (op_lss (.base rfl) (.base rfl)) ?_
      refine jg_nil ?_
      refine jn_keep [1, 2, 3, 4, 11, 62] [4] (.cons rfl (.cons rfl (.cons rfl (.cons rfl (.cons rfl (.cons rfl .nil)))))) (.cons rfl .nil) ?_
      refine jn_seq ?_
      refine j_cond rfl (fun h10 => ?_) (fun h10 => ?_)
      · have h10 : j < l.2.2.length := by simpa using h10
        have hsl := (hl.2.2.2 _ (List.getElem_mem h10)).2.2.1
        have hfd := fD_same (d := d) hsame (List.getElem_mem h10)
        refine j_skip (jn_seq (j_seq (j_block (j_seq ?_))))
        refine j_region ?_
        refine jg_adr _ rfl _ rfl rfl (op_ofield fld26_2 (.base rfl)) ?_
        refine jg_adr _ rfl _ rfl rfl (op_oload ty24 (.base rfl) rfl rfl ln26_2) ?_
        refine jg_adr _ rfl _ rfl rfl (op_move (.base rfl)) ?_
        refine jg_adr _ rfl _ rfl rfl (op_index Try.underlying24 ty40 (.base rfl) (.base rfl) rfl (List.getElem?_eq_getElem (by first | omega | (simp; done) | (simp; omega) | (simp at hg; omega)))) ?_
        refine jg_adr _ rfl _ rfl rfl (op_load ty40 (.base rfl)) ?_
        refine jg_adr _ rfl _ rfl rfl (op_move (.base rfl)) ?_
        refine jg_adr _ rfl _ rfl rfl (op_move (.base rfl)) ?_
        refine jg_adr _ rfl _ rfl rfl (op_call (treeOn_ok _ _ _ (Nat.le_trans hsl (by decide))) (.cons (.base rfl) (.cons (.base rfl) (.cons (.base rfl) .nil))) rfl rfl) ?_
        refine jg_adr _ rfl _ rfl rfl (op_move (.base rfl)) ?_
        refine jg_adr _ rfl _ rfl rfl (op_ext30 (.base rfl)) ?_
        refine jg_adr _ rfl _ rfl rfl (op_ext31 (.base rfl)) ?_
        refine jg_adr _ rfl _ rfl rfl (op_ext32 (.base rfl)) ?_
        refine jg_adr _ rfl _ rfl rfl (op_assign (.base rfl)) ?_
        refine jg_adr _ rfl _ rfl rfl (op_assign (.base rfl)) ?_
        refine jg_adr _ rfl _ rfl rfl (op_assign (.base rfl)) ?_
        refine jg_nil ?_
        refine jn_keep [1, 2, 3, 4, 11, 12, 13, 14] [4] (.cons rfl (.cons rfl (.cons rfl (.cons rfl (.cons rfl (.cons rfl (.cons rfl (.cons rfl .nil)))))))) (.cons rfl .nil) ?_
        refine jn_seq (j_seq ?_)
        refine j_region ?_
        refine jg_adr _ rfl _ rfl rfl (op_ofield fld26_2 (.base rfl)) ?_
        refine jg_adr _ rfl _ rfl rfl (op_oload ty24 (.base rfl) rfl rfl ln26_2) ?_
        refine jg_adr _ rfl _ rfl rfl (op_move (.base rfl)) ?_
        refine jg_adr _ rfl _ rfl rfl (op_index Try.underlying24 ty40 (.base rfl) (.base rfl) rfl (List.getElem?_eq_getElem (by first | omega | (simp; done) | (simp; omega) | (simp at hg; omega)))) ?_
        refine jg_adr _ rfl _ rfl rfl (op_load ty40 (.base rfl)) ?_
        refine jg_adr _ rfl _ rfl rfl (op_move (.base rfl)) ?_
        refine jg_adr _ rfl _ rfl rfl (op_move (.base rfl)) ?_
        refine jg_adr _ rfl _ rfl rfl (op_call (treeOn_ok _ _ _ (Nat.le_trans hsl (by decide))) (.cons (.base rfl) (.cons (.base rfl) (.cons (.base rfl) .nil))) rfl rfl) ?_
        refine jg_adr _ rfl _ rfl rfl (op_move (.base rfl)) ?_
        refine jg_adr _ rfl _ rfl rfl (op_ext30 (.base rfl)) ?_
        refine jg_adr _ rfl _ rfl rfl (op_ext31 (.base rfl)) ?_
        refine jg_adr _ rfl _ rfl rfl (op_ext32 (.base rfl)) ?_
        refine jg_adr _ rfl _ rfl rfl (op_assign (.base rfl)) ?_
        refine jg_adr _ rfl _ rfl rfl (op_assign (.base rfl)) ?_
        refine jg_adr _ rfl _ rfl rfl (op_assign (.base rfl)) ?_
        refine jg_nil ?_
        refine jn_keep [1, 2, 3, 4, 11, 12, 13, 14, 15, 16, 17] [4] (.cons rfl (.cons rfl (.cons rfl (.cons rfl (.cons rfl (.cons rfl (.cons rfl (.cons rfl (.cons rfl (.cons rfl (.cons rfl .nil))))))))))) (.cons rfl .nil) ?_
        refine jn_seq (j_seq ?_)
        refine j_region ?_
        refine jg_adr _ rfl _ rfl rfl (op_move (.base rfl)) ?_
        refine jg_adr _ rfl _ rfl rfl (op_move (.base rfl)) ?_
        refine jg_adr _ rfl _ rfl rfl (op_call (same_ints _ _) (.cons (.base rfl) (.cons (.base rfl) .nil)) rfl rfl) ?_
        refine jg_adr _ rfl _ rfl rfl (op_not (.base rfl)) ?_
        refine jg_adr _ rfl _ rfl rfl (op_move (.base rfl)) ?_
        refine jg_gd _ _ _ _ _ _ rfl rfl rfl rfl rfl (fun hg => op_move (.base rfl)) ?_
        refine jg_gd _ _ _ _ _ _ rfl rfl rfl rfl rfl (fun hg => op_move (.base rfl)) ?_
        refine jg_gd _ _ _ _ _ _ rfl rfl rfl rfl rfl (fun hg => op_call (same_ints _ _) (.cons (.gd rfl hg) (.cons (.gd rfl hg) .nil)) rfl rfl) ?_
        refine jg_gd _ _ _ _ _ _ rfl rfl rfl rfl rfl (fun hg => op_not (.gd rfl hg)) ?_
        refine jg_adr _ rfl _ rfl rfl (op_pick_or (.base rfl) (.base rfl) rfl (by intro h; first | (rw [h]; rfl) | (rw [hg, h]; rfl) | (rw [h, hg]; rfl) | simp_all)) ?_
        refine jg_adr _ rfl _ rfl rfl (op_move (.base rfl)) ?_
        refine jg_gd _ _ _ _ _ _ rfl rfl rfl rfl rfl (fun hg => op_move (.base rfl)) ?_
        refine jg_gd _ _ _ _ _ _ rfl rfl rfl rfl rfl (fun hg => op_move (.base rfl)) ?_
        refine jg_gd _ _ _ _ _ _ rfl rfl rfl rfl rfl (fun hg => op_call (same_ints _ _) (.cons (.gd rfl hg) (.cons (.gd rfl hg) .nil)) rfl rfl) ?_
        refine jg_gd _ _ _ _ _ _ rfl rfl rfl rfl rfl (fun hg => op_not (.gd rfl hg)) ?_
        refine jg_adr _ rfl _ rfl rfl (op_pick_or (.base rfl) (.base rfl) rfl (by intro h; first | (rw [h]; rfl) | (rw [hg, h]; rfl) | (rw [h, hg]; rfl) | simp_all)) ?_
        refine jg_nil ?_
        refine jn_keep [1, 2, 3, 4, 11, 104] [4] (.cons rfl (.cons rfl (.cons rfl (.cons rfl (.cons rfl (.cons rfl .nil)))))) (.cons rfl .nil) ?_
        refine jn_seq ?_
        refine j_cond rfl (fun h14 => ?_) (fun h14 => ?_)
        · exact absurd h14 (by rw [idxI_congr hfd, parI_congr hfd, priI_congr hfd]; simp)
        · try simp at h14
          refine j_skip (jn_blk (jn_seq ?_))
          refine j_region ?_
          refine jg_adr _ rfl _ rfl rfl (op_move (.base rfl)) ?_
          refine jg_adr _ rfl _ rfl rfl (op_add (.base rfl) (.base rfl) (w64 (by omega))) ?_
          refine jg_adr _ rfl _ rfl rfl (op_assign (.base rfl)) ?_
          refine jg_nil ?_
          refine jn_keep [1, 2, 3, 4, 11] [4] (.cons rfl (.cons rfl (.cons rfl (.cons rfl (.cons rfl .nil))))) (.cons rfl .nil) ?_
          exact jn_loop (fun a w hi => ⟨j + 1, (by first | omega | (simp; omega)), (by omega), (Sub.inv ⟨(by repeat (first | exact SubS_nil | refine SubS_cons rfl (by first | rfl | (simp; done) | assumption) ?_)), (by repeat (first | exact SubH_nil | refine SubH_cons rfl (by first | rfl | (simp; done) | assumption) ?_))⟩ hi)⟩)
      · skip
        refine j_exit (je_seq (je_loop (je_blk (jn_seq (j_seq ?_)))))
        refine j_draw mo (by kernel_rfl) (
          AS.cons _ _ rfl (ga_adr rfl rfl rfl (op_oload ty26 (.base rfl) rfl rfl (Lens.id _))) (
            AS.cons _ _ rfl (ga_adr rfl rfl rfl (op_move (.base rfl))) (
            AS.cons _ _ rfl (ga_adr rfl rfl rfl (op_call (lawOn_ok _ _ hl) (.cons (.base rfl) (.cons (.base rfl) .nil)) rfl rfl)) (
            AS.cons _ _ rfl (ga_adr rfl rfl rfl (op_oload ty26 (.base rfl) rfl rfl (Lens.id _))) (
            AS.cons _ _ rfl (ga_adr rfl rfl rfl (op_move (.base rfl))) (
            AS.cons _ _ rfl (ga_adr rfl rfl rfl (op_call (lawOn_ok _ _ hl) (.cons (.base rfl) (.cons (.base rfl) .nil)) rfl rfl)) (
            AS.cons _ _ rfl (ga_adr rfl rfl rfl (op_call (same_law _ _) (.cons (.base rfl) (.cons (.base rfl) .nil)) rfl rfl)) (
            AS.cons _ _ rfl (ga_adr rfl rfl rfl (op_move (.base rfl))) (
            AS.cons _ _ rfl (ga_gd _ _ _ _ rfl rfl rfl rfl rfl (fun hg => op_call awake_ok .nil rfl rfl)) (
            AS.cons _ _ rfl (ga_adr rfl rfl rfl (op_pick_and (.base rfl) (.base rfl) rfl (by intro h; first | (rw [h]; rfl) | (rw [hg, h]; rfl) | (rw [h, hg]; rfl) | simp_all))) (
            AS.cons _ _ rfl (ga_adr rfl rfl rfl (op_assign (.base rfl))) (
            AS.nil)))))))))))) ?_
        refine jn_keep [8] [] (.cons rfl .nil) .nil ?_
        refine jn_seq (j_ret ?_)
        exact jr_fin1 Try.results4 (res_tmp rfl) rfl (rb (by simp [dE_t (lawOn_same hsame)]))


theorem restr_len {l l' : List TRule} {d date : Int} (h0 : 0 ≤ date) (h1 : date ≤ 109572) (h' : l' = rulOn (fA date) l) : (idxI (fD d date) l l.length).length = (idxI (fD d date) l' l'.length).length := by
  subst h'
  rw [idxI_len, idxI_len, ← restr h0 h1, List.length_map]
theorem rulOn_get {f : TRule → Bool} {l : List TRule} {q : Nat} (h : q < (idxs f l l.length).length) : (rulOn f l)[q]? = some (ruleAt f l (idxs f l l.length)[q]) := by
  unfold rulOn; rw [List.getElem?_map, List.getElem?_eq_getElem h]; rfl
theorem restr_get {l l' : List TRule} {d date : Int} (h0 : 0 ≤ date) (h1 : date ≤ 109572) (h' : l' = rulOn (fA date) l) {j : Nat} (hj : j < (idxs (fD d date) l l.length).length) (hj2 : j < (idxs (fD d date) l' l'.length).length)
    {x y : TRule} (hx : l[(idxs (fD d date) l l.length)[j]]? = some x) (hy : l'[(idxs (fD d date) l' l'.length)[j]]? = some y) : x.1 = y.1 ∧ x.2.2.2.1 = y.2.2.2.1 ∧ x.2.2.2.2.2.1 = y.2.2.2.2.2.1 ∧ x.2.2.2.2.2.2.1 = y.2.2.2.2.2.2.1 := by
  subst h'
  have hlen : (rulOn (fA date) l).length = (idxs (fA date) l l.length).length := by unfold rulOn; simp
  have g2 : (idxs (fD d date) (rulOn (fA date) l) (rulOn (fA date) l).length)[j] < (idxs (fA date) l l.length).length := by have := idxs_get_lt hj2; omega
  have e : (idxs (fD d date) l l.length)[j]? = some ((idxs (fA date) l l.length).getD (idxs (fD d date) (rulOn (fA date) l) (rulOn (fA date) l).length)[j] 0) := by
    rw [← restr h0 h1, List.getElem?_map, List.getElem?_eq_getElem hj2]; rfl
  rw [List.getElem?_eq_getElem hj] at e
  injection e with e
  rw [List.getD_eq_getElem?_getD, List.getElem?_eq_getElem g2] at e
  have e3 : (rulOn (fA date) l)[(idxs (fD d date) (rulOn (fA date) l) (rulOn (fA date) l).length)[j]]? = some (ruleAt (fA date) l (idxs (fD d date) l l.length)[j]) := by
    rw [e]; exact rulOn_get g2
  rw [hy] at e3
  injection e3 with e3
  have g := idxs_get_lt hj
  rw [List.getElem?_eq_getElem g] at hx
  injection hx with hx
  rw [e3, ← hx]
  simp [ruleAt, g]
theorem lawOn_sc {l : TLaw} {date : Int} {k : Nat} (h : k < l.2.2.length) {h' : k < (lawOn date l).2.2.length} : ((lawOn date l).2.2[k]' h').2.2.2.2 = rulOn (fA date) (l.2.2[k]).2.2.2.2 := by
  have e : (lawOn date l).2.2[k]? = some (scpOn date l.2.2[k]) := by unfold lawOn; simp [h]
  rw [List.getElem?_eq_getElem h'] at e
  injection e with e
  rw [e]; rfl

theorem law_restr (l : TLaw) (date d : Int) (hw : WL l) : Ct Try.prog 8 [.tv rLaw l, .raw (.int .i64 date), .raw (.int .i64 d)] (.raw (.bool true)) := by
  refine ct_intro Try.func8 rfl rfl Try.ntmps8 rfl rfl ?_
  intro w0 ok0
  refine j_seq ?_
  refine j_region ?_
  refine jg_os _ rfl (op_box (.tv (.base rfl)) rfl rfl rfl) ?_
  refine jg_adr _ rfl _ rfl rfl (op_assign (.base rfl)) ?_
  refine jg_nil ?_
  refine jn_keep [1, 2, 3] [3] (.cons rfl (.cons rfl (.cons rfl .nil))) (.cons rfl .nil) ?_
  refine jn_seq (j_seq (j_seq ?_))
  refine j_region ?_
  refine jg_adr _ rfl _ rfl rfl (op_oload ty26 (.base rfl) rfl rfl (Lens.id _)) ?_
  refine jg_adr _ rfl _ rfl rfl (op_call (smallL_ok _ hw) (.cons (.base rfl) .nil) rfl rfl) ?_
  refine jg_adr _ rfl _ rfl rfl (op_not (.base rfl)) ?_
  refine jg_adr _ rfl _ rfl rfl (op_move (.base rfl)) ?_
  refine jg_gd _ _ _ _ _ _ rfl rfl rfl rfl rfl (fun hg => op_move (.base rfl)) ?_
  refine jg_gd _ _ _ _ _ _ rfl rfl rfl rfl rfl (fun hg => op_lss (.gd rfl hg) (.base rfl)) ?_
  refine jg_adr _ rfl _ rfl rfl (op_pick_or (.base rfl) (.base rfl) rfl (by intro h; first | (rw [h]; rfl) | (rw [hg, h]; rfl) | (rw [h, hg]; rfl) | simp_all)) ?_
  refine jg_adr _ rfl _ rfl rfl (op_move (.base rfl)) ?_
  refine jg_gd _ _ _ _ _ _ rfl rfl rfl rfl rfl (fun hg => op_move (.base rfl)) ?_
  refine jg_gd _ _ _ _ _ _ rfl rfl rfl rfl rfl (fun hg => op_gtr (.gd rfl hg) (.base rfl)) ?_
  refine jg_adr _ rfl _ rfl rfl (op_pick_or (.base rfl) (.base rfl) rfl (by intro h; first | (rw [h]; rfl) | (rw [hg, h]; rfl) | (rw [h, hg]; rfl) | simp_all)) ?_
  refine jg_nil ?_
  refine jn_keep [1, 2, 3, 24] [3] (.cons rfl (.cons rfl (.cons rfl (.cons rfl .nil)))) (.cons rfl .nil) ?_
  refine jn_seq ?_
  refine j_cond rfl (fun h1 => ?_) (fun h1 => ?_)
  · skip
    refine j_seq ?_
    refine j_region ?_
    refine jg_adr _ rfl _ rfl rfl (op_call awake_ok .nil rfl rfl) ?_
    refine jg_adr _ rfl _ rfl rfl (op_assign (.base rfl)) ?_
    refine jg_nil ?_
    refine jn_keep [6] [] (.cons rfl .nil) .nil ?_
    refine jn_seq (j_ret (jr_seq ?_))
    exact jr_fin1 Try.results8 (res_tmp rfl) rfl (rb (by first | rfl | (simp; done) | (simp [dE_t]; done)))
  · have h1 : dB (SmL l) = true ∧ 0 ≤ date ∧ date ≤ 109572 := by simp at h1; refine ⟨h1.1.1, by omega⟩
    obtain ⟨hl, hL, hT, hS⟩ := smL_lim (dB_iff.1 h1.1)
    have h1 := h1.2
    refine j_skip (jn_seq (j_seq ?_))
    refine j_region ?_
    refine jg_adr _ rfl _ rfl rfl (op_oload ty26 (.base rfl) rfl rfl (Lens.id _)) ?_
    refine jg_adr _ rfl _ rfl rfl (op_move (.base rfl)) ?_
    refine jg_adr _ rfl _ rfl rfl (op_call (lawOn_ok _ _ hl) (.cons (.base rfl) (.cons (.base rfl) .nil)) rfl rfl) ?_
    refine jg_os _ rfl (op_alloc _ z26 rfl rfl rfl) ?_
    refine jg_os _ rfl (op_ostore ty26 (.base rfl) rfl rfl (Lens.id _) (.tv (.base rfl))) ?_
    refine jg_nil ?_
    refine jn_keep [1, 2, 3, 7] [3, 7] (.cons rfl (.cons rfl (.cons rfl (.cons rfl .nil)))) (.cons rfl (.cons rfl .nil)) ?_
    refine jn_seq (j_seq (j_seq ?_))
    refine j_region ?_
    refine jg_adr _ rfl _ rfl rfl (op_ofield fld26_2 (.base rfl)) ?_
    refine jg_adr _ rfl _ rfl rfl (op_oload ty24 (.base rfl) rfl rfl ln26_2) ?_
    refine jg_adr _ rfl _ rfl rfl (op_len Try.underlying24 (.base rfl)) ?_
    refine jg_adr _ rfl _ rfl rfl (op_ofield fld26_2 (.base rfl)) ?_
    refine jg_adr _ rfl _ rfl rfl (op_oload ty24 (.base rfl) rfl rfl ln26_2) ?_
    refine jg_adr _ rfl _ rfl rfl (op_len Try.underlying24 (.base rfl)) ?_
    refine jg_adr _ rfl _ rfl rfl (op_neq (.base rfl) (.base rfl)) ?_
    refine jg_nil ?_
    refine jn_keep [1, 2, 3, 7, 35] [3, 7] (.cons rfl (.cons rfl (.cons rfl (.cons rfl (.cons rfl .nil))))) (.cons rfl (.cons rfl .nil)) ?_
    refine jn_seq ?_
    refine j_cond rfl (fun h4 => ?_) (fun h4 => ?_)
    · exact absurd h4 (by simp [lawOn])
    · try simp at h4
      refine j_skip (jn_seq (j_seq (j_seq ?_)))
      refine j_region ?_
      refine jg_adr _ rfl _ rfl rfl (op_assign (.base rfl)) ?_
      refine jg_nil ?_
      refine jn_keep [1, 2, 3, 7, 8] [3, 7] (.cons rfl (.cons rfl (.cons rfl (.cons rfl (.cons rfl .nil))))) (.cons rfl (.cons rfl .nil)) ?_
      refine jn_seq (j_block ?_)
      have hlen : (lawOn date l).2.2.length = l.2.2.length := by simp [lawOn]
      refine j_loopp (ι := Nat) (fun k => ⟨[(1, .raw (.int .i64 (date))), (2, .raw (.int .i64 (d))), (3, .optr 3 rLaw.n 0 0), (7, .optr 7 rLaw.n 0 0), (8, .raw (.int .i64 ((k : Nat))))], [(3, ⟨rLaw, [l]⟩), (7, ⟨rLaw, [lawOn date l]⟩)]⟩) (fun k => k ≤ l.2.2.length) (fun k => l.2.2.length - k) 0 (Nat.zero_le _) (fun a w hi => (Sub.inv ⟨(by repeat (first | exact SubS_nil | refine SubS_cons rfl (by first | rfl | (simp; done) | assumption) ?_)), (by repeat (first | exact SubH_nil | refine SubH_cons rfl (by first | rfl | (simp; done) | assumption) ?_))⟩ hi)) ?_
      rintro k hk
      refine j_seq (j_seq ?_)
      refine j_region ?_
      refine jg_adr _ rfl _ rfl rfl (op_move (.base rfl)) ?_
      refine jg_adr _ rfl _ rfl rfl (op_ofield fld26_2 (.base rfl)) ?_
      refine jg_adr _ rfl _ rfl rfl (op_oload ty24 (.base rfl) rfl rfl ln26_2) ?_
      refine jg_adr _ rfl _ rfl rfl (op_len Try.underlying24 (.base rfl)) ?_
      refine jg_adr _ rfl _ rfl rfl (op_lss (.base rfl) (.base rfl)) ?_
      refine jg_nil ?_
      refine jn_keep [1, 2, 3, 7, 8, 40] [3, 7] (.cons rfl (.cons rfl (.cons rfl (.cons rfl (.cons rfl (.cons rfl .nil)))))) (.cons rfl (.cons rfl .nil)) ?_
      refine jn_seq ?_
      refine j_cond rfl (fun h7 => ?_) (fun h7 => ?_)
      · have h7 : k < l.2.2.length := by simpa using h7
        have hk2 : k < (lawOn date l).2.2.length := by omega
        have hsl := (hl.2.2.2 _ (List.getElem_mem h7)).2.2.1
        have hsl2 := ((lawOn_lim (d := date) hl).2.2.2 _ (List.getElem_mem hk2)).2.2.1
        have hsc := lawOn_sc (date := date) h7 (h' := hk2)
        have hrl := restr_len (d := d) h1.1 h1.2 hsc
        refine j_skip (jn_seq (j_seq (j_block (j_seq ?_))))
        refine j_region ?_
        refine jg_adr _ rfl _ rfl rfl (op_ofield fld26_2 (.base rfl)) ?_
        refine jg_adr _ rfl _ rfl rfl (op_oload ty24 (.base rfl) rfl rfl ln26_2) ?_
        refine jg_adr _ rfl _ rfl rfl (op_move (.base rfl)) ?_
        refine jg_adr _ rfl _ rfl rfl (op_index Try.underlying24 ty40 (.base rfl) (.base rfl) rfl (List.getElem?_eq_getElem (by first | omega | (simp; done) | (simp; omega) | (simp at hg; omega)))) ?_
        refine jg_adr _ rfl _ rfl rfl (op_load ty40 (.base rfl)) ?_
        refine jg_adr _ rfl _ rfl rfl (op_move (.base rfl)) ?_
        refine jg_adr _ rfl _ rfl rfl (op_move (.base rfl)) ?_
        refine jg_adr _ rfl _ rfl rfl (op_call (rulesOn_ok _ _ _ (Nat.le_trans hsl (by decide))) (.cons (.base rfl) (.cons (.base rfl) (.cons (.base rfl) .nil))) rfl rfl) ?_
        refine jg_adr _ rfl _ rfl rfl (op_assign (.base rfl)) ?_
        refine jg_nil ?_
        refine jn_keep [1, 2, 3, 7, 8, 9] [3, 7] (.cons rfl (.cons rfl (.cons rfl (.cons rfl (.cons rfl (.cons rfl .nil)))))) (.cons rfl (.cons rfl .nil)) ?_
        refine jn_seq (j_seq ?_)
        refine j_region ?_
        refine jg_adr _ rfl _ rfl rfl (op_ofield fld26_2 (.base rfl)) ?_
        refine jg_adr _ rfl _ rfl rfl (op_oload ty24 (.base rfl) rfl rfl ln26_2) ?_
        refine jg_adr _ rfl _ rfl rfl (op_move (.base rfl)) ?_
        refine jg_adr _ rfl _ rfl rfl (op_index Try.underlying24 ty40 (.base rfl) (.base rfl) rfl (List.getElem?_eq_getElem (by first | omega | (simp; done) | (simp; omega) | (simp at hg; omega)))) ?_
        refine jg_adr _ rfl _ rfl rfl (op_load ty40 (.base rfl)) ?_
        refine jg_adr _ rfl _ rfl rfl (op_move (.base rfl)) ?_
        refine jg_adr _ rfl _ rfl rfl (op_move (.base rfl)) ?_
        refine jg_adr _ rfl _ rfl rfl (op_call (rulesOn_ok _ _ _ (Nat.le_trans hsl2 (by decide))) (.cons (.base rfl) (.cons (.base rfl) (.cons (.base rfl) .nil))) rfl rfl) ?_
        refine jg_adr _ rfl _ rfl rfl (op_assign (.base rfl)) ?_
        refine jg_nil ?_
        refine jn_keep [1, 2, 3, 7, 8, 9, 10] [3, 7] (.cons rfl (.cons rfl (.cons rfl (.cons rfl (.cons rfl (.cons rfl (.cons rfl .nil))))))) (.cons rfl (.cons rfl .nil)) ?_
        refine jn_seq (j_seq (j_seq ?_))
        refine j_region ?_
        refine jg_adr _ rfl _ rfl rfl (op_move (.base rfl)) ?_
        refine jg_adr _ rfl _ rfl rfl (op_len Try.underlying32 (.base rfl)) ?_
        refine jg_adr _ rfl _ rfl rfl (op_move (.base rfl)) ?_
        refine jg_adr _ rfl _ rfl rfl (op_len Try.underlying32 (.base rfl)) ?_
        refine jg_adr _ rfl _ rfl rfl (op_neq (.base rfl) (.base rfl)) ?_
        refine jg_nil ?_
        refine jn_keep [1, 2, 3, 7, 8, 9, 10, 63] [3, 7] (.cons rfl (.cons rfl (.cons rfl (.cons rfl (.cons rfl (.cons rfl (.cons rfl (.cons rfl .nil)))))))) (.cons rfl (.cons rfl .nil)) ?_
        refine jn_seq ?_
        refine j_cond rfl (fun h11 => ?_) (fun h11 => ?_)
        · exact absurd h11 (by rw [hrl]; simp)
        · try simp at h11
          refine j_skip (jn_seq (j_seq ?_))
          refine j_region ?_
          refine jg_adr _ rfl _ rfl rfl (op_assign (.base rfl)) ?_
          refine jg_nil ?_
          refine jn_keep [1, 2, 3, 7, 8, 9, 10, 11] [3, 7] (.cons rfl (.cons rfl (.cons rfl (.cons rfl (.cons rfl (.cons rfl (.cons rfl (.cons rfl .nil)))))))) (.cons rfl (.cons rfl .nil)) ?_
          refine jn_seq (j_block ?_)
          refine j_loopp (ι := Nat) (fun j => ⟨[(1, .raw (.int .i64 (date))), (2, .raw (.int .i64 (d))), (3, .optr 3 rLaw.n 0 0), (7, .optr 7 rLaw.n 0 0), (8, .raw (.int .i64 ((k : Nat)))), (9, .tv (rSlice (rInt .i64)) (idxI (fD d date) (l.2.2[k]'h7).2.2.2.2 (l.2.2[k]'h7).2.2.2.2.length)), (10, .tv (rSlice (rInt .i64)) (idxI (fD d date) ((lawOn date l).2.2[k]'hk2).2.2.2.2 ((lawOn date l).2.2[k]'hk2).2.2.2.2.length)), (11, .raw (.int .i64 ((j : Nat))))], [(3, ⟨rLaw, [l]⟩), (7, ⟨rLaw, [lawOn date l]⟩)]⟩) (fun j => j ≤ (idxI (fD d date) (l.2.2[k]'h7).2.2.2.2 (l.2.2[k]'h7).2.2.2.2.length).length) (fun j => (idxI (fD d date) (l.2.2[k]'h7).2.2.2.2 (l.2.2[k]'h7).2.2.2.2.length).length - j) 0 (Nat.zero_le _) (fun a w hi => (Sub.inv ⟨(by repeat (first | exact SubS_nil | refine SubS_cons rfl (by first | rfl | (simp; done) | assumption) ?_)), (by repeat (first | exact SubH_nil | refine SubH_cons rfl (by first | rfl | (simp; done) | assumption) ?_))⟩ hi)) ?_
          rintro j hj
          have r1 := idxI_len (fD d date) (l.2.2[k]'h7).2.2.2.2 (l.2.2[k]'h7).2.2.2.2.length
          have r2 := idxs_len (fD d date) (l.2.2[k]'h7).2.2.2.2 (l.2.2[k]'h7).2.2.2.2.length
          refine j_seq (j_seq ?_)
          refine j_region ?_
          refine jg_adr _ rfl _ rfl rfl (op_move (.base rfl)) ?_
          refine jg_adr _ rfl _ rfl rfl (op_move (.base rfl)) ?_
          refine jg_adr _ rfl _ rfl rfl (op_len Try.underlying32 (.base rfl)) ?_
          refine jg_adr _ rfl _ rfl rfl (op_lss (.base rfl) (.base rfl)) ?_
          refine jg_nil ?_
          refine jn_keep [1, 2, 3, 7, 8, 9, 10, 11, 67] [3, 7] (.cons rfl (.cons rfl (.cons rfl (.cons rfl (.cons rfl (.cons rfl (.cons rfl (.cons rfl (.cons rfl .nil))))))))) (.cons rfl (.cons rfl .nil)) ?_
          refine jn_seq ?_
          refine j_cond rfl (fun h14 => ?_) (fun h14 => ?_)
          · have h14 : j < (idxI (fD d date) (l.2.2[k]'h7).2.2.2.2 (l.2.2[k]'h7).2.2.2.2.length).length := by simpa using h14
            have h14b : j < (idxI (fD d date) ((lawOn date l).2.2[k]'hk2).2.2.2.2 ((lawOn date l).2.2[k]'hk2).2.2.2.2.length).length := by omega
            have hja : j < (idxs (fD d date) (l.2.2[k]'h7).2.2.2.2 (l.2.2[k]'h7).2.2.2.2.length).length := by rw [← idxI_len]; exact h14
            have hjb : j < (idxs (fD d date) ((lawOn date l).2.2[k]'hk2).2.2.2.2 ((lawOn date l).2.2[k]'hk2).2.2.2.2.length).length := by rw [← idxI_len]; exact h14b
            have ga := idxs_get_lt hja
            have gb := idxs_get_lt hjb
            have ea := idxI_at hja (h' := h14)
            have eb := idxI_at hjb (h' := h14b)
            obtain ⟨z1, z2, z3, z4⟩ := restr_get h1.1 h1.2 hsc hja hjb (List.getElem?_eq_getElem ga) (List.getElem?_eq_getElem gb)
            refine j_skip (jn_seq (j_seq (j_block (j_seq (j_seq ?_)))))
            refine j_draw mo (by kernel_rfl) (
              AS.cons _ _ rfl (ga_adr rfl rfl rfl (op_move (.base rfl))) (
                AS.cons _ _ rfl (ga_adr rfl rfl rfl (op_move (.base rfl))) (
                AS.cons _ _ rfl (ga_adr rfl rfl rfl (op_index Try.underlying32 ty3 (.base rfl) (.base rfl) rfl (List.getElem?_eq_getElem (by first | omega | (simp; done) | (simp; omega) | (simp at hg; omega))))) (
                AS.cons _ _ rfl (ga_adr rfl rfl rfl (op_load ty3 (.base rfl))) (
                AS.cons _ _ rfl (ga_adr rfl rfl rfl (op_lss (.base rfl) (.base rfl))) (
                AS.cons _ _ rfl (ga_adr rfl rfl rfl (op_move (.base rfl))) (
                AS.cons _ _ rfl (ga_gd _ _ _ _ rfl rfl rfl rfl rfl (fun hg => op_move (.base rfl))) (
                AS.cons _ _ rfl (ga_gd _ _ _ _ rfl rfl rfl rfl rfl (fun hg => op_move (.base rfl))) (
                AS.cons _ _ rfl (ga_gd _ _ _ _ rfl rfl rfl rfl rfl (fun hg => op_index Try.underlying32 ty3 (.gd rfl hg) (.gd rfl hg) rfl (getD_some (z := (0 : Int)) (by first | omega | (simp; done) | (simp; omega) | (simp at hg; omega) | (simp at hg; simp; omega))))) (
                AS.cons _ _ rfl (ga_gd _ _ _ _ rfl rfl rfl rfl rfl (fun hg => op_load ty3 (.gd rfl hg))) (
                AS.cons _ _ rfl (ga_gd _ _ _ _ rfl rfl rfl rfl rfl (fun hg => op_ofield fld26_2 (.base rfl))) (
                AS.cons _ _ rfl (ga_gd _ _ _ _ rfl rfl rfl rfl rfl (fun hg => op_oload ty24 (.gd rfl hg) rfl rfl ln26_2)) (
                AS.cons _ _ rfl (ga_gd _ _ _ _ rfl rfl rfl rfl rfl (fun hg => op_move (.base rfl))) (
                AS.cons _ _ rfl (ga_gd _ _ _ _ rfl rfl rfl rfl rfl (fun hg => op_index Try.underlying24 ty40 (.gd rfl hg) (.gd rfl hg) rfl (getD_some (z := (([], (0, ([], ([], [])))) : TScope)) (by first | omega | (simp; done) | (simp; omega) | (simp at hg; omega) | (simp at hg; simp; omega))))) (
                AS.cons _ _ rfl (ga_gd _ _ _ _ rfl rfl rfl rfl rfl (fun hg => op_field fld40_4 ln40_4 (.gd rfl hg))) (
                AS.cons _ _ rfl (ga_gd _ _ _ _ rfl rfl rfl rfl rfl (fun hg => op_load ty38 (.gd rfl hg))) (
                AS.cons _ _ rfl (ga_gd _ _ _ _ rfl rfl rfl rfl rfl (fun hg => op_len Try.underlying38 (.gd rfl hg))) (
                AS.cons _ _ rfl (ga_gd _ _ _ _ rfl rfl rfl rfl rfl (fun hg => op_geq (.gd rfl hg) (.gd rfl hg))) (
                AS.cons _ _ rfl (ga_adr rfl rfl rfl (op_pick_or (.base rfl) (.base rfl) rfl (by intro h; first | (rw [h]; rfl) | (rw [hg, h]; rfl) | (rw [h, hg]; rfl) | simp_all))) (
                AS.cons _ _ rfl (ga_adr rfl rfl rfl (op_move (.base rfl))) (
                AS.cons _ _ rfl (ga_gd _ _ _ _ rfl rfl rfl rfl rfl (fun hg => op_move (.base rfl))) (
                AS.cons _ _ rfl (ga_gd _ _ _ _ rfl rfl rfl rfl rfl (fun hg => op_move (.base rfl))) (
                AS.cons _ _ rfl (ga_gd _ _ _ _ rfl rfl rfl rfl rfl (fun hg => op_index Try.underlying32 ty3 (.gd rfl hg) (.gd rfl hg) rfl (getD_some (z := (0 : Int)) (by first | omega | (simp; done) | (simp; omega) | (simp at hg; omega) | (simp at hg; simp; omega))))) (
                AS.cons _ _ rfl (ga_gd _ _ _ _ rfl rfl rfl rfl rfl (fun hg => op_load ty3 (.gd rfl hg))) (
                AS.cons _ _ rfl (ga_gd _ _ _ _ rfl rfl rfl rfl rfl (fun hg => op_lss (.gd rfl hg) (.base rfl))) (
                AS.cons _ _ rfl (ga_adr rfl rfl rfl (op_pick_or (.base rfl) (.base rfl) rfl (by intro h; first | (rw [h]; rfl) | (rw [hg, h]; rfl) | (rw [h, hg]; rfl) | simp_all))) (
                AS.cons _ _ rfl (ga_adr rfl rfl rfl (op_move (.base rfl))) (
                AS.cons _ _ rfl (ga_gd _ _ _ _ rfl rfl rfl rfl rfl (fun hg => op_move (.base rfl))) (
                AS.cons _ _ rfl (ga_gd _ _ _ _ rfl rfl rfl rfl rfl (fun hg => op_move (.base rfl))) (
                AS.cons _ _ rfl (ga_gd _ _ _ _ rfl rfl rfl rfl rfl (fun hg => op_index Try.underlying32 ty3 (.gd rfl hg) (.gd rfl hg) rfl (getD_some (z := (0 : Int)) (by first | omega | (simp; done) | (simp; omega) | (simp at hg; omega) | (simp at hg; simp; omega))))) (
                AS.cons _ _ rfl (ga_gd _ _ _ _ rfl rfl rfl rfl rfl (fun hg => op_load ty3 (.gd rfl hg))) (
                AS.cons _ _ rfl (ga_gd _ _ _ _ rfl rfl rfl rfl rfl (fun hg => op_ofield fld26_2 (.base rfl))) (
                AS.cons _ _ rfl (ga_gd _ _ _ _ rfl rfl rfl rfl rfl (fun hg => op_oload ty24 (.gd rfl hg) rfl rfl ln26_2)) (
                AS.cons _ _ rfl (ga_gd _ _ _ _ rfl rfl rfl rfl rfl (fun hg => op_move (.base rfl))) (
                AS.cons _ _ rfl (ga_gd _ _ _ _ rfl rfl rfl rfl rfl (fun hg => op_index Try.underlying24 ty40 (.gd rfl hg) (.gd rfl hg) rfl (getD_some (z := (([], (0, ([], ([], [])))) : TScope)) (by first | omega | (simp; done) | (simp; omega) | (simp at hg; omega) | (simp at hg; simp; omega))))) (
                AS.cons _ _ rfl (ga_gd _ _ _ _ rfl rfl rfl rfl rfl (fun hg => op_field fld40_4 ln40_4 (.gd rfl hg))) (
                AS.cons _ _ rfl (ga_gd _ _ _ _ rfl rfl rfl rfl rfl (fun hg => op_load ty38 (.gd rfl hg))) (
                AS.cons _ _ rfl (ga_gd _ _ _ _ rfl rfl rfl rfl rfl (fun hg => op_len Try.underlying38 (.gd rfl hg))) (
                AS.cons _ _ rfl (ga_gd _ _ _ _ rfl rfl rfl rfl rfl (fun hg => op_geq (.gd rfl hg) (.gd rfl hg))) (
                AS.cons _ _ rfl (ga_adr rfl rfl rfl (op_pick_or (.base rfl) (.base rfl) rfl (by intro h; first | (rw [h]; rfl) | (rw [hg, h]; rfl) | (rw [h, hg]; rfl) | simp_all))) (
                AS.nil))))))))))))))))))))))))))))))))))))))))) ?_
            refine jn_keep [1, 2, 3, 7, 8, 9, 10, 11, 109] [3, 7] (.cons rfl (.cons rfl (.cons rfl (.cons rfl (.cons rfl (.cons rfl (.cons rfl (.cons rfl (.cons rfl .nil))))))))) (.cons rfl (.cons rfl .nil)) ?_
            refine jn_seq ?_
            refine j_cond rfl (fun h16 => ?_) (fun h16 => ?_)
            · exfalso; simp [List.getElem?_eq_getElem h14, List.getElem?_eq_getElem h14b, List.getElem?_eq_getElem h7, List.getElem?_eq_getElem hk2, ea, eb] at h16; omega
            · try simp at h16
              refine j_skip (jn_seq (j_seq ?_))
              refine j_drawE mo (by kernel_rfl) (
                AE.cons _ _ _ rfl (gh_ga [3] (ga_adr rfl rfl rfl (op_ofield fld26_2 (.base rfl))) (by kernel_rfl)) (
                AE.cons _ _ _ rfl (gh_ga [3] (ga_adr rfl rfl rfl (op_oload ty24 (.base rfl) rfl rfl ln26_2)) (by kernel_rfl)) (
                AE.cons _ _ _ rfl (gh_ga [] (ga_adr rfl rfl rfl (op_move (.base rfl))) (by kernel_rfl)) (
                AE.cons _ _ _ rfl (gh_ga [] (ga_adr rfl rfl rfl (op_index Try.underlying24 ty40 (.base rfl) (.base rfl) rfl (List.getElem?_eq_getElem (by first | omega | (simp; done) | (simp; omega) | (simp at hg; omega))))) (by kernel_rfl)) (
                AE.cons _ _ _ rfl (gh_ga [] (ga_adr rfl rfl rfl (op_field fld40_4 ln40_4 (.base rfl))) (by kernel_rfl)) (
                AE.cons _ _ _ rfl (gh_ga [] (ga_adr rfl rfl rfl (op_load ty38 (.base rfl))) (by kernel_rfl)) (
                AE.cons _ _ _ rfl (gh_ga [] (ga_adr rfl rfl rfl (op_move (.base rfl))) (by kernel_rfl)) (
                AE.cons _ _ _ rfl (gh_ga [] (ga_adr rfl rfl rfl (op_move (.base rfl))) (by kernel_rfl)) (
                AE.cons _ _ _ rfl (gh_ga [] (ga_adr rfl rfl rfl (op_index Try.underlying32 ty3 (.base rfl) (.base rfl) rfl (List.getElem?_eq_getElem (by first | omega | (simp; done) | (simp; omega) | (simp at hg; omega))))) (by kernel_rfl)) (
                AE.cons _ _ _ rfl (gh_ga [] (ga_adr rfl rfl rfl (op_load ty3 (.base rfl))) (by kernel_rfl)) (
                AE.cons _ _ _ rfl (gh_ga [] (ga_adr rfl rfl rfl (op_index Try.underlying38 ty48 (.base rfl) (.base rfl) (idxI_at hja) (List.getElem?_eq_getElem (by first | omega | (simp; done) | (simp; omega) | (simp at hg; omega))))) (by kernel_rfl)) (
                AE.cons _ _ _ rfl (gh_ga [] (ga_adr rfl rfl rfl (op_load ty48 (.base rfl))) (by kernel_rfl)) (
                AE.cons _ _ _ rfl (gh_ga [7] (ga_adr rfl rfl rfl (op_ofield fld26_2 (.base rfl))) (by kernel_rfl)) (
                AE.cons _ _ _ rfl (gh_ga [7] (ga_adr rfl rfl rfl (op_oload ty24 (.base rfl) rfl rfl ln26_2)) (by kernel_rfl)) (
                AE.cons _ _ _ rfl (gh_ga [] (ga_adr rfl rfl rfl (op_move (.base rfl))) (by kernel_rfl)) (
                AE.cons _ _ _ rfl (gh_ga [] (ga_adr rfl rfl rfl (op_index Try.underlying24 ty40 (.base rfl) (.base rfl) rfl (List.getElem?_eq_getElem (by first | omega | (simp; done) | (simp; omega) | (simp at hg; omega))))) (by kernel_rfl)) (
                AE.cons _ _ _ rfl (gh_ga [] (ga_adr rfl rfl rfl (op_field fld40_4 ln40_4 (.base rfl))) (by kernel_rfl)) (
                AE.cons _ _ _ rfl (gh_ga [] (ga_adr rfl rfl rfl (op_load ty38 (.base rfl))) (by kernel_rfl)) (
                AE.cons _ _ _ rfl (gh_ga [] (ga_adr rfl rfl rfl (op_move (.base rfl))) (by kernel_rfl)) (
                AE.cons _ _ _ rfl (gh_ga [] (ga_adr rfl rfl rfl (op_move (.base rfl))) (by kernel_rfl)) (
                AE.cons _ _ _ rfl (gh_ga [] (ga_adr rfl rfl rfl (op_index Try.underlying32 ty3 (.base rfl) (.base rfl) rfl (List.getElem?_eq_getElem (by first | omega | (simp; done) | (simp; omega) | (simp at hg; omega))))) (by kernel_rfl)) (
                AE.cons _ _ _ rfl (gh_ga [] (ga_adr rfl rfl rfl (op_load ty3 (.base rfl))) (by kernel_rfl)) (
                AE.cons _ _ _ rfl (gh_ga [] (ga_adr rfl rfl rfl (op_index Try.underlying38 ty48 (.base rfl) (.base rfl) (idxI_at hjb) (List.getElem?_eq_getElem (by first | omega | (simp; done) | (simp; omega) | (simp at hg; omega))))) (by kernel_rfl)) (
                AE.cons _ _ _ rfl (gh_ga [] (ga_adr rfl rfl rfl (op_load ty48 (.base rfl))) (by kernel_rfl)) (
                AE.cons _ _ _ rfl (gh_alloc _ z48 rfl) (
                AE.cons _ _ _ rfl (gh_alloc _ z48 rfl) (
                AE.cons _ _ _ rfl (gh_store ty48 (.base rfl) rfl rfl (Lens.id _) (.tv (.base rfl))) (
                AE.cons _ _ _ rfl (gh_store ty48 (.base rfl) rfl rfl (Lens.id _) (.tv (.base rfl))) (
                AE.nil))))))))))))))))))))))))))))) (by kernel_rfl) ?_
              refine jn_keep [1, 2, 3, 7, 8, 9, 10, 11, 12, 13] [3, 7, 12, 13] (.cons rfl (.cons rfl (.cons rfl (.cons rfl (.cons rfl (.cons rfl (.cons rfl (.cons rfl (.cons rfl (.cons rfl .nil)))))))))) (.cons rfl (.cons rfl (.cons rfl (.cons rfl .nil)))) ?_
              refine jn_seq (j_seq ?_)
              refine j_region ?_
              refine jg_adr _ rfl _ rfl rfl (op_ofield fld48_0 (.base rfl)) ?_
              refine jg_adr _ rfl _ rfl rfl (op_oload ty9 (.base rfl) rfl rfl ln48_0) ?_
              refine jg_adr _ rfl _ rfl rfl (op_ofield fld48_0 (.base rfl)) ?_
              refine jg_adr _ rfl _ rfl rfl (op_oload ty9 (.base rfl) rfl rfl ln48_0) ?_
              refine jg_adr _ rfl _ rfl rfl (op_neq_string Try.underlying9 (.base rfl) (.base rfl)) ?_
              refine jg_adr _ rfl _ rfl rfl (op_move (.base rfl)) ?_
              refine jg_gd _ _ _ _ _ _ rfl rfl rfl rfl rfl (fun hg => op_ofield fld48_3 (.base rfl)) ?_
              refine jg_gd _ _ _ _ _ _ rfl rfl rfl rfl rfl (fun hg => op_oload ty3 (.gd rfl hg) rfl rfl ln48_3) ?_
              refine jg_gd _ _ _ _ _ _ rfl rfl rfl rfl rfl (fun hg => op_ofield fld48_3 (.base rfl)) ?_
              refine jg_gd _ _ _ _ _ _ rfl rfl rfl rfl rfl (fun hg => op_oload ty3 (.gd rfl hg) rfl rfl ln48_3) ?_
              refine jg_gd _ _ _ _ _ _ rfl rfl rfl rfl rfl (fun hg => op_neq (.gd rfl hg) (.gd rfl hg)) ?_
              refine jg_adr _ rfl _ rfl rfl (op_pick_or (.base rfl) (.base rfl) rfl (by intro h; first | (rw [h]; rfl) | (rw [hg, h]; rfl) | (rw [h, hg]; rfl) | simp_all)) ?_
              refine jg_adr _ rfl _ rfl rfl (op_move (.base rfl)) ?_
              refine jg_gd _ _ _ _ _ _ rfl rfl rfl rfl rfl (fun hg => op_ofield fld48_5 (.base rfl)) ?_
              refine jg_gd _ _ _ _ _ _ rfl rfl rfl rfl rfl (fun hg => op_oload ty46 (.gd rfl hg) rfl rfl ln48_5) ?_
              refine jg_gd _ _ _ _ _ _ rfl rfl rfl rfl rfl (fun hg => op_ofield fld48_5 (.base rfl)) ?_
              refine jg_gd _ _ _ _ _ _ rfl rfl rfl rfl rfl (fun hg => op_oload ty46 (.gd rfl hg) rfl rfl ln48_5) ?_
              refine jg_gd _ _ _ _ _ _ rfl rfl rfl rfl rfl (fun hg => op_call (same_nodes _ _) (.cons (.gd rfl hg) (.cons (.gd rfl hg) .nil)) rfl rfl) ?_
              refine jg_gd _ _ _ _ _ _ rfl rfl rfl rfl rfl (fun hg => op_not (.gd rfl hg)) ?_
              refine jg_adr _ rfl _ rfl rfl (op_pick_or (.base rfl) (.base rfl) rfl (by intro h; first | (rw [h]; rfl) | (rw [hg, h]; rfl) | (rw [h, hg]; rfl) | simp_all)) ?_
              refine jg_adr _ rfl _ rfl rfl (op_move (.base rfl)) ?_
              refine jg_gd _ _ _ _ _ _ rfl rfl rfl rfl rfl (fun hg => op_ofield fld48_6 (.base rfl)) ?_
              refine jg_gd _ _ _ _ _ _ rfl rfl rfl rfl rfl (fun hg => op_oload ty46 (.gd rfl hg) rfl rfl ln48_6) ?_
              refine jg_gd _ _ _ _ _ _ rfl rfl rfl rfl rfl (fun hg => op_ofield fld48_6 (.base rfl)) ?_
              refine jg_gd _ _ _ _ _ _ rfl rfl rfl rfl rfl (fun hg => op_oload ty46 (.gd rfl hg) rfl rfl ln48_6) ?_
              refine jg_gd _ _ _ _ _ _ rfl rfl rfl rfl rfl (fun hg => op_call (same_nodes _ _) (.cons (.gd rfl hg) (.cons (.gd rfl hg) .nil)) rfl rfl) ?_
              refine jg_gd _ _ _ _ _ _ rfl rfl rfl rfl rfl (fun hg => op_not (.gd rfl hg)) ?_
              refine jg_adr _ rfl _ rfl rfl (op_pick_or (.base rfl) (.base rfl) rfl (by intro h; first | (rw [h]; rfl) | (rw [hg, h]; rfl) | (rw [h, hg]; rfl) | simp_all)) ?_
              refine jg_nil ?_
              refine jn_keep [1, 2, 3, 7, 8, 9, 10, 11, 161] [3, 7] (.cons rfl (.cons rfl (.cons rfl (.cons rfl (.cons rfl (.cons rfl (.cons rfl (.cons rfl (.cons rfl .nil))))))))) (.cons rfl (.cons rfl .nil)) ?_
              refine jn_seq ?_
              refine j_cond rfl (fun h19 => ?_) (fun h19 => ?_)
              · exfalso; simp [z1, z2, z3, z4, dE_t] at h19
              · try simp at h19
                refine j_skip (jn_blk (jn_seq ?_))
                refine j_region ?_
                refine jg_adr _ rfl _ rfl rfl (op_move (.base rfl)) ?_
                refine jg_adr _ rfl _ rfl rfl (op_add (.base rfl) (.base rfl) (w64 (by omega))) ?_
                refine jg_adr _ rfl _ rfl rfl (op_assign (.base rfl)) ?_
                refine jg_nil ?_
                refine jn_keep [1, 2, 3, 7, 8, 9, 10, 11] [3, 7] (.cons rfl (.cons rfl (.cons rfl (.cons rfl (.cons rfl (.cons rfl (.cons rfl (.cons rfl .nil)))))))) (.cons rfl (.cons rfl .nil)) ?_
                exact jn_loop (fun a w hi => ⟨j + 1, (by first | omega | (simp; omega)), (by omega), (Sub.inv ⟨(by repeat (first | exact SubS_nil | refine SubS_cons rfl (by first | rfl | (simp; done) | assumption) ?_)), (by repeat (first | exact SubH_nil | refine SubH_cons rfl (by first | rfl | (simp; done) | assumption) ?_))⟩ hi)⟩)
          · skip
            refine j_exit (je_seq (je_loop (je_blk (jn_blk (jn_seq ?_)))))
            refine j_region ?_
            refine jg_adr _ rfl _ rfl rfl (op_move (.base rfl)) ?_
            refine jg_adr _ rfl _ rfl rfl (op_add (.base rfl) (.base rfl) (w64 (by omega))) ?_
            refine jg_adr _ rfl _ rfl rfl (op_assign (.base rfl)) ?_
            refine jg_nil ?_
            refine jn_keep [1, 2, 3, 7, 8] [3, 7] (.cons rfl (.cons rfl (.cons rfl (.cons rfl (.cons rfl .nil))))) (.cons rfl (.cons rfl .nil)) ?_
            exact jn_loop (fun a w hi => ⟨k + 1, (by first | omega | (simp; omega)), (by omega), (Sub.inv ⟨(by repeat (first | exact SubS_nil | refine SubS_cons rfl (by first | rfl | (simp; done) | assumption) ?_)), (by repeat (first | exact SubH_nil | refine SubH_cons rfl (by first | rfl | (simp; done) | assumption) ?_))⟩ hi)⟩)
      · skip
        refine j_exit (je_seq (je_loop (je_blk (jn_seq (j_seq ?_)))))
        refine j_region ?_
        refine jg_adr _ rfl _ rfl rfl (op_call awake_ok .nil rfl rfl) ?_
        refine jg_adr _ rfl _ rfl rfl (op_assign (.base rfl)) ?_
        refine jg_nil ?_
        refine jn_keep [6] [] (.cons rfl .nil) .nil ?_
        refine jn_seq (j_ret ?_)
        exact jr_fin1 Try.results8 (res_tmp rfl) rfl (rb (by first | rfl | (simp; done) | (simp [dE_t]; done)))

end Go.Proofs.Ythfhekohlmboiaa
