import Derived.Test.YtemcooggkcneiaaP16l
namespace Go.Proofs.Ytemcooggkcneiaa
open Go.Eng
set_option maxRecDepth 100000
set_option maxHeartbeats 4000000
set_option linter.unusedVariables false
set_option linter.unusedSimpArgs false

theorem has_ok (l : List Int) (x : Int) : Ct Try.prog 26 [.tv (rSlice (rInt .i64)) l, .raw (.int .i64 x)] (.raw (.bool (decide (x ∈ l)))) := by
  refine ct_intro Try.func26 rfl rfl Try.ntmps26 rfl rfl ?_
  intro w0 ok0
  refine j_len 0 rfl (fun hl0 => ?_)
  refine j_seq ?_
  refine j_region ?_
  refine jg_adr _ rfl _ rfl rfl (op_assign (.base rfl)) ?_
  refine jg_nil ?_
  refine jn_keep [0, 1] [] (.cons rfl (.cons rfl .nil)) .nil ?_
  refine jn_seq (j_seq (j_seq ?_))
  refine j_region ?_
  refine jg_adr _ rfl _ rfl rfl (op_assign (.base rfl)) ?_
  refine jg_nil ?_
  refine jn_keep [0, 1, 5] [] (.cons rfl (.cons rfl (.cons rfl .nil))) .nil ?_
  refine jn_seq (j_block ?_)
  refine j_loopp (ι := Nat) (fun k => ⟨[(0, .tv (rSlice (rInt .i64)) l), (1, .raw (.int .i64 (x))), (5, .raw (.int .i64 ((k : Nat))))], []⟩) (fun k => k ≤ l.length ∧ x ∉ l.take k) (fun k => l.length - k) 0 (⟨Nat.zero_le _, by simp⟩) (fun a w hi => (Sub.inv ⟨(by repeat (first | exact SubS_nil | refine SubS_cons rfl (by first | rfl | (simp; done) | assumption) ?_)), (by repeat (first | exact SubH_nil | refine SubH_cons rfl (by first | rfl | (simp; done) | assumption) ?_))⟩ hi)) ?_
  rintro k ⟨hk, hx⟩
  refine j_seq (j_seq ?_)
  refine j_region ?_
  refine jg_adr _ rfl _ rfl rfl (op_move (.base rfl)) ?_
  refine jg_adr _ rfl _ rfl rfl (op_move (.base rfl)) ?_
  refine jg_adr _ rfl _ rfl rfl (op_len Try.underlying28 (.base rfl)) ?_
  refine jg_adr _ rfl _ rfl rfl (op_lss (.base rfl) (.base rfl)) ?_
  refine jg_nil ?_
  refine jn_keep [0, 1, 5, 9] [] (.cons rfl (.cons rfl (.cons rfl (.cons rfl .nil)))) .nil ?_
  refine jn_seq ?_
  refine j_cond rfl (fun h2 => ?_) (fun h2 => ?_)
  · have h2 : k < l.length := by simp at h2; omega
    refine j_skip (jn_seq (j_seq (j_block (j_seq ?_))))
    refine j_region ?_
    refine jg_adr _ rfl _ rfl rfl (op_move (.base rfl)) ?_
    refine jg_adr _ rfl _ rfl rfl (op_move (.base rfl)) ?_
    refine jg_adr _ rfl _ rfl rfl (op_index Try.underlying28 ty3 (.base rfl) (.base rfl) rfl (List.getElem?_eq_getElem (by first | omega | (simp; done) | (simp; omega) | (simp at hg; omega)))) ?_
    refine jg_adr _ rfl _ rfl rfl (op_load ty3 (.base rfl)) ?_
    refine jg_adr _ rfl _ rfl rfl (op_move (.base rfl)) ?_
    refine jg_adr _ rfl _ rfl rfl (op_eql (.base rfl) (.base rfl)) ?_
    refine jg_nil ?_
    refine jn_keep [0, 1, 5, 17] [] (.cons rfl (.cons rfl (.cons rfl (.cons rfl .nil)))) .nil ?_
    refine jn_seq ?_
    refine j_cond rfl (fun h4 => ?_) (fun h4 => ?_)
    · have h4 : l[k] = x := by simpa using h4
      refine j_seq ?_
      refine j_region ?_
      refine jg_adr _ rfl _ rfl rfl (op_assign (.base rfl)) ?_
      refine jg_nil ?_
      refine jn_keep [4] [] (.cons rfl .nil) .nil ?_
      refine jn_seq (j_ret (jr_blk (jr_seq (jr_loop (jr_blk (jr_seq ?_))))))
      exact jr_fin1 Try.results26 (res_tmp rfl) rfl (rb (by symm; rw [decide_eq_true_iff, ← h4]; exact List.getElem_mem h2))
    · have h4 : ¬ l[k] = x := by simpa using h4
      refine j_skip (jn_blk (jn_seq ?_))
      refine j_region ?_
      refine jg_adr _ rfl _ rfl rfl (op_move (.base rfl)) ?_
      refine jg_adr _ rfl _ rfl rfl (op_add (.base rfl) (.base rfl) (w64 (by omega))) ?_
      refine jg_adr _ rfl _ rfl rfl (op_assign (.base rfl)) ?_
      refine jg_nil ?_
      refine jn_keep [0, 1, 5] [] (.cons rfl (.cons rfl (.cons rfl .nil))) .nil ?_
      exact jn_loop (fun a w hi => ⟨k + 1, (by first | omega | (simp; omega)), (⟨by omega, fun hm => (by rw [List.take_succ_eq_append_getElem h2, List.mem_append] at hm; rcases hm with q | q; exact hx q; simp at q; exact h4 q.symm)⟩), Sub.inv ⟨(by repeat (first | exact SubS_nil | refine SubS_cons rfl (by first | rfl | (simp; done) | assumption) ?_)), (by repeat (first | exact SubH_nil | refine SubH_cons rfl (by first | rfl | (simp; done) | assumption) ?_))⟩ hi⟩)
  · have h2 : k = l.length := by simp at h2; omega
    rw [h2, List.take_length] at hx
    refine j_exit (je_seq (je_loop (je_blk (jn_seq (j_seq ?_)))))
    refine j_region ?_
    refine jg_adr _ rfl _ rfl rfl (op_assign (.base rfl)) ?_
    refine jg_nil ?_
    refine jn_keep [4] [] (.cons rfl .nil) .nil ?_
    refine jn_seq (j_ret ?_)
    exact jr_fin1 Try.results26 (res_tmp rfl) rfl (rb (by symm; rw [decide_eq_false_iff_not]; exact hx))

theorem in_ok (l : List Int) (x : Int) : Ct Try.prog 14 [.tv (rSlice (rInt .i64)) l, .raw (.int .i64 x)] (.raw (.bool (decide (x ∈ l)))) := by
  refine ct_intro Try.func14 rfl rfl Try.ntmps14 rfl rfl ?_
  intro w0 ok0
  refine j_len 0 rfl (fun hl0 => ?_)
  refine j_seq ?_
  refine j_region ?_
  refine jg_adr _ rfl _ rfl rfl (op_assign (.base rfl)) ?_
  refine jg_nil ?_
  refine jn_keep [0, 1] [] (.cons rfl (.cons rfl .nil)) .nil ?_
  refine jn_seq (j_seq (j_seq ?_))
  refine j_region ?_
  refine jg_adr _ rfl _ rfl rfl (op_assign (.base rfl)) ?_
  refine jg_nil ?_
  refine jn_keep [0, 1, 5] [] (.cons rfl (.cons rfl (.cons rfl .nil))) .nil ?_
  refine jn_seq (j_block ?_)
  refine j_loopp (ι := Nat) (fun k => ⟨[(0, .tv (rSlice (rInt .i64)) l), (1, .raw (.int .i64 (x))), (5, .raw (.int .i64 ((k : Nat))))], []⟩) (fun k => k ≤ l.length ∧ x ∉ l.take k) (fun k => l.length - k) 0 (⟨Nat.zero_le _, by simp⟩) (fun a w hi => (Sub.inv ⟨(by repeat (first | exact SubS_nil | refine SubS_cons rfl (by first | rfl | (simp; done) | assumption) ?_)), (by repeat (first | exact SubH_nil | refine SubH_cons rfl (by first | rfl | (simp; done) | assumption) ?_))⟩ hi)) ?_
  rintro k ⟨hk, hx⟩
  refine j_seq (j_seq ?_)
  refine j_region ?_
  refine jg_adr _ rfl _ rfl rfl (op_move (.base rfl)) ?_
  refine jg_adr _ rfl _ rfl rfl (op_move (.base rfl)) ?_
  refine jg_adr _ rfl _ rfl rfl (op_len Try.underlying28 (.base rfl)) ?_
  refine jg_adr _ rfl _ rfl rfl (op_lss (.base rfl) (.base rfl)) ?_
  refine jg_nil ?_
  refine jn_keep [0, 1, 5, 9] [] (.cons rfl (.cons rfl (.cons rfl (.cons rfl .nil)))) .nil ?_
  refine jn_seq ?_
  refine j_cond rfl (fun h2 => ?_) (fun h2 => ?_)
  · have h2 : k < l.length := by simp at h2; omega
    refine j_skip (jn_seq (j_seq (j_block (j_seq ?_))))
    refine j_region ?_
    refine jg_adr _ rfl _ rfl rfl (op_move (.base rfl)) ?_
    refine jg_adr _ rfl _ rfl rfl (op_move (.base rfl)) ?_
    refine jg_adr _ rfl _ rfl rfl (op_index Try.underlying28 ty3 (.base rfl) (.base rfl) rfl (List.getElem?_eq_getElem (by first | omega | (simp; done) | (simp; omega) | (simp at hg; omega)))) ?_
    refine jg_adr _ rfl _ rfl rfl (op_load ty3 (.base rfl)) ?_
    refine jg_adr _ rfl _ rfl rfl (op_move (.base rfl)) ?_
    refine jg_adr _ rfl _ rfl rfl (op_eql (.base rfl) (.base rfl)) ?_
    refine jg_nil ?_
    refine jn_keep [0, 1, 5, 17] [] (.cons rfl (.cons rfl (.cons rfl (.cons rfl .nil)))) .nil ?_
    refine jn_seq ?_
    refine j_cond rfl (fun h4 => ?_) (fun h4 => ?_)
    · have h4 : l[k] = x := by simpa using h4
      refine j_seq ?_
      refine j_region ?_
      refine jg_adr _ rfl _ rfl rfl (op_assign (.base rfl)) ?_
      refine jg_nil ?_
      refine jn_keep [4] [] (.cons rfl .nil) .nil ?_
      refine jn_seq (j_ret (jr_blk (jr_seq (jr_loop (jr_blk (jr_seq ?_))))))
      exact jr_fin1 Try.results14 (res_tmp rfl) rfl (rb (by symm; rw [decide_eq_true_iff, ← h4]; exact List.getElem_mem h2))
    · have h4 : ¬ l[k] = x := by simpa using h4
      refine j_skip (jn_blk (jn_seq ?_))
      refine j_region ?_
      refine jg_adr _ rfl _ rfl rfl (op_move (.base rfl)) ?_
      refine jg_adr _ rfl _ rfl rfl (op_add (.base rfl) (.base rfl) (w64 (by omega))) ?_
      refine jg_adr _ rfl _ rfl rfl (op_assign (.base rfl)) ?_
      refine jg_nil ?_
      refine jn_keep [0, 1, 5] [] (.cons rfl (.cons rfl (.cons rfl .nil))) .nil ?_
      exact jn_loop (fun a w hi => ⟨k + 1, (by first | omega | (simp; omega)), (⟨by omega, fun hm => (by rw [List.take_succ_eq_append_getElem h2, List.mem_append] at hm; rcases hm with q | q; exact hx q; simp at q; exact h4 q.symm)⟩), Sub.inv ⟨(by repeat (first | exact SubS_nil | refine SubS_cons rfl (by first | rfl | (simp; done) | assumption) ?_)), (by repeat (first | exact SubH_nil | refine SubH_cons rfl (by first | rfl | (simp; done) | assumption) ?_))⟩ hi⟩)
  · have h2 : k = l.length := by simp at h2; omega
    rw [h2, List.take_length] at hx
    refine j_exit (je_seq (je_loop (je_blk (jn_seq (j_seq ?_)))))
    refine j_region ?_
    refine jg_adr _ rfl _ rfl rfl (op_assign (.base rfl)) ?_
    refine jg_nil ?_
    refine jn_keep [4] [] (.cons rfl .nil) .nil ?_
    refine jn_seq (j_ret ?_)
    exact jr_fin1 Try.results14 (res_tmp rfl) rfl (rb (by symm; rw [decide_eq_false_iff_not]; exact hx))

theorem is_ok (s : TScope) (d : Int) : Ct Try.prog 35 [.tv rScope s, .raw (.int .i64 d)] (.raw (.bool (inN (scN s) d))) := by
  refine ct_intro Try.func35 rfl rfl Try.ntmps35 rfl rfl ?_
  intro w0 ok0
  refine j_seq ?_
  refine j_region ?_
  refine jg_os _ rfl (op_box (.tv (.base rfl)) rfl rfl rfl) ?_
  refine jg_adr _ rfl _ rfl rfl (op_assign (.base rfl)) ?_
  refine jg_nil ?_
  refine jn_keep [1, 2] [2] (.cons rfl (.cons rfl .nil)) (.cons rfl .nil) ?_
  refine jn_seq (j_seq ?_)
  refine j_region ?_
  refine jg_adr _ rfl _ rfl rfl (op_move (.base rfl)) ?_
  refine jg_adr _ rfl _ rfl rfl (op_geq (.base rfl) (.base rfl)) ?_
  refine jg_adr _ rfl _ rfl rfl (op_move (.base rfl)) ?_
  refine jg_gd _ _ _ _ _ _ rfl rfl rfl rfl rfl (fun hg => op_move (.base rfl)) ?_
  refine jg_gd _ _ _ _ _ _ rfl rfl rfl rfl rfl (fun hg => op_ofield fld25_3 (.base rfl)) ?_
  refine jg_gd _ _ _ _ _ _ rfl rfl rfl rfl rfl (fun hg => op_oload ty22 (.gd rfl hg) rfl rfl ln25_3) ?_
  refine jg_gd _ _ _ _ _ _ rfl rfl rfl rfl rfl (fun hg => op_len Try.underlying22 (.gd rfl hg)) ?_
  refine jg_gd _ _ _ _ _ _ rfl rfl rfl rfl rfl (fun hg => op_lss (.gd rfl hg) (.gd rfl hg)) ?_
  refine jg_adr _ rfl _ rfl rfl (op_pick_and (.base rfl) (.base rfl) rfl (by intro h; first | (rw [h]; rfl) | (rw [hg, h]; rfl) | (rw [h, hg]; rfl) | simp_all)) ?_
  refine jg_adr _ rfl _ rfl rfl (op_assign (.base rfl)) ?_
  refine jg_nil ?_
  refine jn_keep [4] [] (.cons rfl .nil) .nil ?_
  refine jn_seq (j_ret ?_)
  exact jr_fin1 Try.results35 (res_tmp rfl) rfl (rb (by unfold inN; by_cases e : 0 ≤ d <;> simp [e]))

theorem rdirect_ok (s : TScope) (d : Int) (hL : Lim s) : Ct Try.prog 17 [.tv rScope s, .raw (.int .i64 d)] (.tv (rSlice (rInt .i64)) (dirs s d)) := by
  refine ct_intro Try.func17 rfl rfl Try.ntmps17 rfl rfl ?_
  intro w0 ok0
  have hN : scN s = s.2.2.2.1.length := rfl
  refine j_seq ?_
  refine j_region ?_
  refine jg_os _ rfl (op_box (.tv (.base rfl)) rfl rfl rfl) ?_
  refine jg_adr _ rfl _ rfl rfl (op_assign (.base rfl)) ?_
  refine jg_nil ?_
  refine jn_keep [1, 2] [2] (.cons rfl (.cons rfl .nil)) (.cons rfl .nil) ?_
  refine jn_seq (j_seq ?_)
  refine j_region ?_
  refine jg_adr _ rfl _ rfl rfl (op_assign (.base rfl)) ?_
  refine jg_nil ?_
  refine jn_keep [1, 2, 5] [2] (.cons rfl (.cons rfl (.cons rfl .nil))) (.cons rfl .nil) ?_
  refine jn_seq (j_seq (j_seq ?_))
  refine j_region ?_
  refine jg_adr _ rfl _ rfl rfl (op_oload ty25 (.base rfl) rfl rfl (Lens.id _)) ?_
  refine jg_adr _ rfl _ rfl rfl (op_move (.base rfl)) ?_
  refine jg_adr _ rfl _ rfl rfl (op_call (is_ok s _) (.cons (.base rfl) (.cons (.base rfl) .nil)) rfl rfl) ?_
  refine jg_adr _ rfl _ rfl rfl (op_not (.base rfl)) ?_
  refine jg_nil ?_
  refine jn_keep [1, 2, 5, 18] [2] (.cons rfl (.cons rfl (.cons rfl (.cons rfl .nil)))) (.cons rfl .nil) ?_
  refine jn_seq ?_
  refine j_cond rfl (fun h2 => ?_) (fun h2 => ?_)
  · have h2 : inN (scN s) d = false := by simpa using h2
    refine j_seq ?_
    refine j_region ?_
    refine jg_adr _ rfl _ rfl rfl (op_assign (.base rfl)) ?_
    refine jg_nil ?_
    refine jn_keep [4] [] (.cons rfl .nil) .nil ?_
    refine jn_seq (j_ret (jr_seq ?_))
    exact jr_fin1 Try.results17 (res_nil rfl) rfl (congrArg (SV.tv (rSlice (rInt .i64))) (dirs_no h2).symm)
  · have h2 : inN (scN s) d = true := by simpa using h2
    refine j_skip (jn_seq (j_seq (j_seq ?_)))
    refine j_region ?_
    refine jg_adr _ rfl _ rfl rfl (op_assign (.base rfl)) ?_
    refine jg_nil ?_
    refine jn_keep [1, 2, 5, 6] [2] (.cons rfl (.cons rfl (.cons rfl (.cons rfl .nil)))) (.cons rfl .nil) ?_
    refine jn_seq (j_block ?_)
    refine j_nil 5 (rInt .i64) rfl ?_
    refine j_loopp (ι := Nat) (fun k => ⟨[(1, .raw (.int .i64 (d))), (2, .optr 2 rScope.n 0 0), (5, .tv (rSlice (rInt .i64)) (uniqS (accD (scN s) ((scR s).take k) d))), (6, .raw (.int .i64 ((k : Nat))))], [(2, ⟨rScope, [s]⟩)]⟩) (fun k => k ≤ (scR s).length) (fun k => (scR s).length - k) 0 (Nat.zero_le _) (fun a w hi => Sub.inv ⟨(by repeat (first | exact SubS_nil | refine SubS_cons rfl (by first | rfl | (simp; done) | assumption | exact congrArg (SV.tv (rSlice (rInt .i64))) uniqS_nil.symm) ?_)), (by repeat (first | exact SubH_nil | refine SubH_cons rfl (by first | rfl | (simp; done) | assumption) ?_))⟩ hi) ?_
    rintro k hk
    have hRR : (scR s).length = s.2.2.2.2.length := rfl
    have hal := accD_len (n := scN s) (d := d) hL.2.2 k hk
    have hL1 := hL.1
    have hL2 := hL.2.1
    refine j_seq (j_seq ?_)
    refine j_region ?_
    refine jg_adr _ rfl _ rfl rfl (op_move (.base rfl)) ?_
    refine jg_adr _ rfl _ rfl rfl (op_ofield fld25_4 (.base rfl)) ?_
    refine jg_adr _ rfl _ rfl rfl (op_oload ty23 (.base rfl) rfl rfl ln25_4) ?_
    refine jg_adr _ rfl _ rfl rfl (op_len Try.underlying23 (.base rfl)) ?_
    refine jg_adr _ rfl _ rfl rfl (op_lss (.base rfl) (.base rfl)) ?_
    refine jg_nil ?_
    refine jn_keep [1, 2, 5, 6, 23] [2] (.cons rfl (.cons rfl (.cons rfl (.cons rfl (.cons rfl .nil))))) (.cons rfl .nil) ?_
    refine jn_seq ?_
    refine j_cond rfl (fun h5 => ?_) (fun h5 => ?_)
    · have h5 : k < (scR s).length := by simp at h5; omega
      have hrl := lim_rule hL h5
      have hg1 : (s.2.2.2.2[k]'h5).2.2.2.2.2.1.length ≤ 60 := hrl.1
      have hg2 : (s.2.2.2.2[k]'h5).2.2.2.2.2.2.1.length ≤ 60 := hrl.2
      have hu1 : (uniqS (refs pDef (rlG (scR s)[k]))).length ≤ 60 := Nat.le_trans (ur_len _ _) hrl.1
      have hu2 : (uniqS (refs pDef (rlV (scR s)[k]))).length ≤ 60 := Nat.le_trans (ur_len _ _) hrl.2
      refine j_skip (jn_seq (j_seq (j_block (j_seq (j_seq ?_)))))
      refine j_region ?_
      refine jg_adr _ rfl _ rfl rfl (op_ofield fld25_4 (.base rfl)) ?_
      refine jg_adr _ rfl _ rfl rfl (op_oload ty23 (.base rfl) rfl rfl ln25_4) ?_
      refine jg_adr _ rfl _ rfl rfl (op_move (.base rfl)) ?_
      refine jg_adr _ rfl _ rfl rfl (op_index Try.underlying23 ty41 (.base rfl) (.base rfl) rfl (List.getElem?_eq_getElem (by first | omega | (simp; done) | (simp; omega) | (simp at hg; omega)))) ?_
      refine jg_adr _ rfl _ rfl rfl (op_field fld41_1 ln41_1 (.base rfl)) ?_
      refine jg_adr _ rfl _ rfl rfl (op_load ty3 (.base rfl)) ?_
      refine jg_adr _ rfl _ rfl rfl (op_move (.base rfl)) ?_
      refine jg_adr _ rfl _ rfl rfl (op_neq (.base rfl) (.base rfl)) ?_
      refine jg_nil ?_
      refine jn_keep [1, 2, 5, 6, 33] [2] (.cons rfl (.cons rfl (.cons rfl (.cons rfl (.cons rfl .nil))))) (.cons rfl .nil) ?_
      refine jn_seq ?_
      refine j_cond rfl (fun h7 => ?_) (fun h7 => ?_)
      · have hsf := congrArg uniqS (accD_f (n := scN s) h5 (d := d) (by simpa using h7)).symm
        refine j_exit (je_seq (je_blk (jn_seq ?_)))
        refine j_region ?_
        refine jg_adr _ rfl _ rfl rfl (op_move (.base rfl)) ?_
        refine jg_adr _ rfl _ rfl rfl (op_add (.base rfl) (.base rfl) (w64 (by omega))) ?_
        refine jg_adr _ rfl _ rfl rfl (op_assign (.base rfl)) ?_
        refine jg_nil ?_
        refine jn_keep [1, 2, 5, 6] [2] (.cons rfl (.cons rfl (.cons rfl (.cons rfl .nil)))) (.cons rfl .nil) ?_
        first | (have _hh := hsf; exact jn_loop (fun a w hi => ⟨k + 1, (by first | omega | (simp; omega)), (by omega), Sub.inv ⟨(by repeat (first | exact SubS_nil | refine SubS_cons rfl (by first | rfl | (simp; done) | assumption | exact congrArg (SV.tv (rSlice (rInt .i64))) hsf) ?_)), (by repeat (first | exact SubH_nil | refine SubH_cons rfl (by first | rfl | (simp; done) | assumption) ?_))⟩ hi⟩)) | (have _hh := hst; exact jn_loop (fun a w hi => ⟨k + 1, (by first | omega | (simp; omega)), (by omega), Sub.inv ⟨(by repeat (first | exact SubS_nil | refine SubS_cons rfl (by first | rfl | (simp; done) | assumption | exact congrArg (SV.tv (rSlice (rInt .i64))) hst) ?_)), (by repeat (first | exact SubH_nil | refine SubH_cons rfl (by first | rfl | (simp; done) | assumption) ?_))⟩ hi⟩))
      · have h7 : rlD (scR s)[k] = d := by simpa using h7
        refine j_skip (jn_seq (j_seq ?_))
        refine j_region ?_
        refine jg_adr _ rfl _ rfl rfl (op_ofield fld25_4 (.base rfl)) ?_
        refine jg_adr _ rfl _ rfl rfl (op_oload ty23 (.base rfl) rfl rfl ln25_4) ?_
        refine jg_adr _ rfl _ rfl rfl (op_move (.base rfl)) ?_
        refine jg_adr _ rfl _ rfl rfl (op_index Try.underlying23 ty41 (.base rfl) (.base rfl) rfl (List.getElem?_eq_getElem (by first | omega | (simp; done) | (simp; omega) | (simp at hg; omega)))) ?_
        refine jg_adr _ rfl _ rfl rfl (op_field fld41_5 ln41_5 (.base rfl)) ?_
        refine jg_adr _ rfl _ rfl rfl (op_load ty39 (.base rfl)) ?_
        refine jg_adr _ rfl _ rfl rfl (op_call (rrefs_ok _ (by omega)) (.cons (.base rfl) .nil) rfl rfl) ?_
        refine jg_adr _ rfl _ rfl rfl (op_move (.base rfl)) ?_
        refine jg_adr _ rfl _ rfl rfl (op_ext30 (.base rfl)) ?_
        refine jg_adr _ rfl _ rfl rfl (op_ext31 (.base rfl)) ?_
        refine jg_adr _ rfl _ rfl rfl (op_ext32 (.base rfl)) ?_
        refine jg_adr _ rfl _ rfl rfl (op_assign (.base rfl)) ?_
        refine jg_adr _ rfl _ rfl rfl (op_assign (.base rfl)) ?_
        refine jg_adr _ rfl _ rfl rfl (op_assign (.base rfl)) ?_
        refine jg_nil ?_
        refine jn_keep [1, 2, 5, 6, 8] [2] (.cons rfl (.cons rfl (.cons rfl (.cons rfl (.cons rfl .nil))))) (.cons rfl .nil) ?_
        refine jn_seq (j_seq ?_)
        refine j_region ?_
        refine jg_adr _ rfl _ rfl rfl (op_ofield fld25_4 (.base rfl)) ?_
        refine jg_adr _ rfl _ rfl rfl (op_oload ty23 (.base rfl) rfl rfl ln25_4) ?_
        refine jg_adr _ rfl _ rfl rfl (op_move (.base rfl)) ?_
        refine jg_adr _ rfl _ rfl rfl (op_index Try.underlying23 ty41 (.base rfl) (.base rfl) rfl (List.getElem?_eq_getElem (by first | omega | (simp; done) | (simp; omega) | (simp at hg; omega)))) ?_
        refine jg_adr _ rfl _ rfl rfl (op_field fld41_6 ln41_6 (.base rfl)) ?_
        refine jg_adr _ rfl _ rfl rfl (op_load ty39 (.base rfl)) ?_
        refine jg_adr _ rfl _ rfl rfl (op_call (rrefs_ok _ (by omega)) (.cons (.base rfl) .nil) rfl rfl) ?_
        refine jg_adr _ rfl _ rfl rfl (op_move (.base rfl)) ?_
        refine jg_adr _ rfl _ rfl rfl (op_ext30 (.base rfl)) ?_
        refine jg_adr _ rfl _ rfl rfl (op_ext31 (.base rfl)) ?_
        refine jg_adr _ rfl _ rfl rfl (op_ext32 (.base rfl)) ?_
        refine jg_adr _ rfl _ rfl rfl (op_assign (.base rfl)) ?_
        refine jg_adr _ rfl _ rfl rfl (op_assign (.base rfl)) ?_
        refine jg_adr _ rfl _ rfl rfl (op_assign (.base rfl)) ?_
        refine jg_nil ?_
        refine jn_keep [1, 2, 5, 6, 8, 11] [2] (.cons rfl (.cons rfl (.cons rfl (.cons rfl (.cons rfl (.cons rfl .nil)))))) (.cons rfl .nil) ?_
        refine jn_seq (j_seq (j_seq ?_))
        refine j_region ?_
        refine jg_adr _ rfl _ rfl rfl (op_assign (.base rfl)) ?_
        refine jg_nil ?_
        refine jn_keep [1, 2, 5, 6, 8, 11, 13] [2] (.cons rfl (.cons rfl (.cons rfl (.cons rfl (.cons rfl (.cons rfl (.cons rfl .nil))))))) (.cons rfl .nil) ?_
        refine jn_seq (j_block ?_)
        refine j_loopp (ι := Nat) (fun j => ⟨[(1, .raw (.int .i64 (d))), (2, .optr 2 rScope.n 0 0), (5, .tv (rSlice (rInt .i64)) (uniqS ((accD (scN s) ((scR s).take k) d) ++ ((uniqS (refs pDef (rlG (scR s)[k]))).take j).filter (inN (scN s))))), (6, .raw (.int .i64 ((k : Nat)))), (8, .tv (rSlice (rInt .i64)) (uniqS (refs pDef (rlG (scR s)[k])))), (11, .tv (rSlice (rInt .i64)) (uniqS (refs pDef (rlV (scR s)[k])))), (13, .raw (.int .i64 ((j : Nat))))], [(2, ⟨rScope, [s]⟩)]⟩) (fun j => j ≤ (uniqS (refs pDef (rlG (scR s)[k]))).length) (fun j => (uniqS (refs pDef (rlG (scR s)[k]))).length - j) 0 (Nat.zero_le _) (fun a w hi => Sub.inv ⟨(by repeat (first | exact SubS_nil | refine SubS_cons rfl (by first | rfl | (simp; done) | assumption | simp) ?_)), (by repeat (first | exact SubH_nil | refine SubH_cons rfl (by first | rfl | (simp; done) | assumption) ?_))⟩ hi) ?_
        rintro j hj
        have hfl := flt_len (inN (scN s)) (uniqS (refs pDef (rlG (scR s)[k]))) j
        have hsl := uniqS_len ((accD (scN s) ((scR s).take k) d) ++ ((uniqS (refs pDef (rlG (scR s)[k]))).take j).filter (inN (scN s)))
        rw [List.length_append] at hsl
        refine j_seq (j_seq ?_)
        refine j_region ?_
        refine jg_adr _ rfl _ rfl rfl (op_move (.base rfl)) ?_
        refine jg_adr _ rfl _ rfl rfl (op_move (.base rfl)) ?_
        refine jg_adr _ rfl _ rfl rfl (op_len Try.underlying28 (.base rfl)) ?_
        refine jg_adr _ rfl _ rfl rfl (op_lss (.base rfl) (.base rfl)) ?_
        refine jg_nil ?_
        refine jn_keep [1, 2, 5, 6, 8, 11, 13, 59] [2] (.cons rfl (.cons rfl (.cons rfl (.cons rfl (.cons rfl (.cons rfl (.cons rfl (.cons rfl .nil)))))))) (.cons rfl .nil) ?_
        refine jn_seq ?_
        refine j_cond rfl (fun h11 => ?_) (fun h11 => ?_)
        · have h11 : j < (uniqS (refs pDef (rlG (scR s)[k]))).length := by simp at h11; omega
          refine j_skip (jn_seq (j_seq (j_block (j_seq ?_))))
          refine j_draw mo (by kernel_rfl) (
            AS.cons _ _ rfl (ga_adr rfl rfl rfl (op_oload ty25 (.base rfl) rfl rfl (Lens.id _))) (
              AS.cons _ _ rfl (ga_adr rfl rfl rfl (op_move (.base rfl))) (
              AS.cons _ _ rfl (ga_adr rfl rfl rfl (op_move (.base rfl))) (
              AS.cons _ _ rfl (ga_adr rfl rfl rfl (op_index Try.underlying28 ty3 (.base rfl) (.base rfl) rfl (List.getElem?_eq_getElem (by first | omega | (simp; done) | (simp; omega) | (simp at hg; omega))))) (
              AS.cons _ _ rfl (ga_adr rfl rfl rfl (op_load ty3 (.base rfl))) (
              AS.cons _ _ rfl (ga_adr rfl rfl rfl (op_call (is_ok s _) (.cons (.base rfl) (.cons (.base rfl) .nil)) rfl rfl)) (
              AS.nil))))))) ?_
          refine jn_keep [1, 2, 5, 6, 8, 11, 13, 67] [2] (.cons rfl (.cons rfl (.cons rfl (.cons rfl (.cons rfl (.cons rfl (.cons rfl (.cons rfl .nil)))))))) (.cons rfl .nil) ?_
          refine jn_seq ?_
          refine j_cond rfl (fun h13 => ?_) (fun h13 => ?_)
          · have hs1 : insU (uniqS (refs pDef (rlG (scR s)[k])))[j] (uniqS ((accD (scN s) ((scR s).take k) d) ++ ((uniqS (refs pDef (rlG (scR s)[k]))).take j).filter (inN (scN s)))) = uniqS ((accD (scN s) ((scR s).take k) d) ++ ((uniqS (refs pDef (rlG (scR s)[k]))).take (j + 1)).filter (inN (scN s))) := by rw [insU_uniqS, flt_t h11 h13, List.append_assoc]
            refine j_region ?_
            refine jg_adr _ rfl _ rfl rfl (op_move (.base rfl)) ?_
            refine jg_adr _ rfl _ rfl rfl (op_move (.base rfl)) ?_
            refine jg_adr _ rfl _ rfl rfl (op_move (.base rfl)) ?_
            refine jg_adr _ rfl _ rfl rfl (op_index Try.underlying28 ty3 (.base rfl) (.base rfl) rfl (List.getElem?_eq_getElem (by first | omega | (simp; done) | (simp; omega) | (simp at hg; omega)))) ?_
            refine jg_adr _ rfl _ rfl rfl (op_load ty3 (.base rfl)) ?_
            refine jg_adr _ rfl _ rfl rfl (op_call (rins16_ok _ _ (by omega)) (.cons (.base rfl) (.cons (.base rfl) .nil)) rfl rfl) ?_
            refine jg_adr _ rfl _ rfl rfl (op_assign (.base rfl)) ?_
            refine jg_nil ?_
            refine jn_keep [1, 2, 5, 6, 8, 11, 13] [2] (.cons rfl (.cons rfl (.cons rfl (.cons rfl (.cons rfl (.cons rfl (.cons rfl .nil))))))) (.cons rfl .nil) ?_
            refine jn_blk (jn_seq ?_)
            refine j_region ?_
            refine jg_adr _ rfl _ rfl rfl (op_move (.base rfl)) ?_
            refine jg_adr _ rfl _ rfl rfl (op_add (.base rfl) (.base rfl) (w64 (by omega))) ?_
            refine jg_adr _ rfl _ rfl rfl (op_assign (.base rfl)) ?_
            refine jg_nil ?_
            refine jn_keep [1, 2, 5, 6, 8, 11, 13] [2] (.cons rfl (.cons rfl (.cons rfl (.cons rfl (.cons rfl (.cons rfl (.cons rfl .nil))))))) (.cons rfl .nil) ?_
            first | exact jn_loop (fun a w hi => ⟨j + 1, (by first | omega | (simp; omega)), (by omega), Sub.inv ⟨(by repeat (first | exact SubS_nil | refine SubS_cons rfl (by first | rfl | (simp; done) | assumption | exact congrArg (SV.tv (rSlice (rInt .i64))) hs1) ?_)), (by repeat (first | exact SubH_nil | refine SubH_cons rfl (by first | rfl | (simp; done) | assumption) ?_))⟩ hi⟩)
          · have hs1 : (uniqS ((accD (scN s) ((scR s).take k) d) ++ ((uniqS (refs pDef (rlG (scR s)[k]))).take j).filter (inN (scN s)))) = uniqS ((accD (scN s) ((scR s).take k) d) ++ ((uniqS (refs pDef (rlG (scR s)[k]))).take (j + 1)).filter (inN (scN s))) := by rw [flt_f h11 (by simpa using h13)]
            refine j_skip (jn_blk (jn_seq ?_))
            refine j_region ?_
            refine jg_adr _ rfl _ rfl rfl (op_move (.base rfl)) ?_
            refine jg_adr _ rfl _ rfl rfl (op_add (.base rfl) (.base rfl) (w64 (by omega))) ?_
            refine jg_adr _ rfl _ rfl rfl (op_assign (.base rfl)) ?_
            refine jg_nil ?_
            refine jn_keep [1, 2, 5, 6, 8, 11, 13] [2] (.cons rfl (.cons rfl (.cons rfl (.cons rfl (.cons rfl (.cons rfl (.cons rfl .nil))))))) (.cons rfl .nil) ?_
            first | exact jn_loop (fun a w hi => ⟨j + 1, (by first | omega | (simp; omega)), (by omega), Sub.inv ⟨(by repeat (first | exact SubS_nil | refine SubS_cons rfl (by first | rfl | (simp; done) | assumption | exact congrArg (SV.tv (rSlice (rInt .i64))) hs1) ?_)), (by repeat (first | exact SubH_nil | refine SubH_cons rfl (by first | rfl | (simp; done) | assumption) ?_))⟩ hi⟩)
        · have h11 : j = (uniqS (refs pDef (rlG (scR s)[k]))).length := by simp at h11; omega
          rw [h11, List.take_length]
          refine j_exit (je_seq (je_loop (je_blk (jn_seq (j_seq ?_)))))
          refine j_region ?_
          refine jg_adr _ rfl _ rfl rfl (op_assign (.base rfl)) ?_
          refine jg_nil ?_
          refine jn_keep [1, 2, 5, 6, 11, 14] [2] (.cons rfl (.cons rfl (.cons rfl (.cons rfl (.cons rfl (.cons rfl .nil)))))) (.cons rfl .nil) ?_
          refine jn_seq (j_block ?_)
          refine j_loopp (ι := Nat) (fun j => ⟨[(1, .raw (.int .i64 (d))), (2, .optr 2 rScope.n 0 0), (5, .tv (rSlice (rInt .i64)) (uniqS (((accD (scN s) ((scR s).take k) d) ++ (uniqS (refs pDef (rlG (scR s)[k]))).filter (inN (scN s))) ++ ((uniqS (refs pDef (rlV (scR s)[k]))).take j).filter (inN (scN s))))), (6, .raw (.int .i64 ((k : Nat)))), (11, .tv (rSlice (rInt .i64)) (uniqS (refs pDef (rlV (scR s)[k])))), (14, .raw (.int .i64 ((j : Nat))))], [(2, ⟨rScope, [s]⟩)]⟩) (fun j => j ≤ (uniqS (refs pDef (rlV (scR s)[k]))).length) (fun j => (uniqS (refs pDef (rlV (scR s)[k]))).length - j) 0 (Nat.zero_le _) (fun a w hi => Sub.inv ⟨(by repeat (first | exact SubS_nil | refine SubS_cons rfl (by first | rfl | (simp; done) | assumption | simp) ?_)), (by repeat (first | exact SubH_nil | refine SubH_cons rfl (by first | rfl | (simp; done) | assumption) ?_))⟩ hi) ?_
          rintro j hj2
          have hfl2 := flt_len (inN (scN s)) (uniqS (refs pDef (rlV (scR s)[k]))) j
          have hfl3 := List.length_filter_le (inN (scN s)) (uniqS (refs pDef (rlG (scR s)[k])))
          have hsl2 := uniqS_len (((accD (scN s) ((scR s).take k) d) ++ (uniqS (refs pDef (rlG (scR s)[k]))).filter (inN (scN s))) ++ ((uniqS (refs pDef (rlV (scR s)[k]))).take j).filter (inN (scN s)))
          rw [List.length_append, List.length_append] at hsl2
          refine j_seq (j_seq ?_)
          refine j_region ?_
          refine jg_adr _ rfl _ rfl rfl (op_move (.base rfl)) ?_
          refine jg_adr _ rfl _ rfl rfl (op_move (.base rfl)) ?_
          refine jg_adr _ rfl _ rfl rfl (op_len Try.underlying28 (.base rfl)) ?_
          refine jg_adr _ rfl _ rfl rfl (op_lss (.base rfl) (.base rfl)) ?_
          refine jg_nil ?_
          refine jn_keep [1, 2, 5, 6, 11, 14, 77] [2] (.cons rfl (.cons rfl (.cons rfl (.cons rfl (.cons rfl (.cons rfl (.cons rfl .nil))))))) (.cons rfl .nil) ?_
          refine jn_seq ?_
          refine j_cond rfl (fun h16 => ?_) (fun h16 => ?_)
          · have h16 : j < (uniqS (refs pDef (rlV (scR s)[k]))).length := by simp at h16; omega
            refine j_skip (jn_seq (j_seq (j_block (j_seq ?_))))
            refine j_draw mo (by kernel_rfl) (
              AS.cons _ _ rfl (ga_adr rfl rfl rfl (op_oload ty25 (.base rfl) rfl rfl (Lens.id _))) (
                AS.cons _ _ rfl (ga_adr rfl rfl rfl (op_move (.base rfl))) (
                AS.cons _ _ rfl (ga_adr rfl rfl rfl (op_move (.base rfl))) (
                AS.cons _ _ rfl (ga_adr rfl rfl rfl (op_index Try.underlying28 ty3 (.base rfl) (.base rfl) rfl (List.getElem?_eq_getElem (by first | omega | (simp; done) | (simp; omega) | (simp at hg; omega))))) (
                AS.cons _ _ rfl (ga_adr rfl rfl rfl (op_load ty3 (.base rfl))) (
                AS.cons _ _ rfl (ga_adr rfl rfl rfl (op_call (is_ok s _) (.cons (.base rfl) (.cons (.base rfl) .nil)) rfl rfl)) (
                AS.nil))))))) ?_
            refine jn_keep [1, 2, 5, 6, 11, 14, 85] [2] (.cons rfl (.cons rfl (.cons rfl (.cons rfl (.cons rfl (.cons rfl (.cons rfl .nil))))))) (.cons rfl .nil) ?_
            refine jn_seq ?_
            refine j_cond rfl (fun h18 => ?_) (fun h18 => ?_)
            · have hs2 : insU (uniqS (refs pDef (rlV (scR s)[k])))[j] (uniqS (((accD (scN s) ((scR s).take k) d) ++ (uniqS (refs pDef (rlG (scR s)[k]))).filter (inN (scN s))) ++ ((uniqS (refs pDef (rlV (scR s)[k]))).take j).filter (inN (scN s)))) = uniqS (((accD (scN s) ((scR s).take k) d) ++ (uniqS (refs pDef (rlG (scR s)[k]))).filter (inN (scN s))) ++ ((uniqS (refs pDef (rlV (scR s)[k]))).take (j + 1)).filter (inN (scN s))) := by rw [insU_uniqS, flt_t h16 h18, List.append_assoc]
              refine j_region ?_
              refine jg_adr _ rfl _ rfl rfl (op_move (.base rfl)) ?_
              refine jg_adr _ rfl _ rfl rfl (op_move (.base rfl)) ?_
              refine jg_adr _ rfl _ rfl rfl (op_move (.base rfl)) ?_
              refine jg_adr _ rfl _ rfl rfl (op_index Try.underlying28 ty3 (.base rfl) (.base rfl) rfl (List.getElem?_eq_getElem (by first | omega | (simp; done) | (simp; omega) | (simp at hg; omega)))) ?_
              refine jg_adr _ rfl _ rfl rfl (op_load ty3 (.base rfl)) ?_
              refine jg_adr _ rfl _ rfl rfl (op_call (rins16_ok _ _ (by omega)) (.cons (.base rfl) (.cons (.base rfl) .nil)) rfl rfl) ?_
              refine jg_adr _ rfl _ rfl rfl (op_assign (.base rfl)) ?_
              refine jg_nil ?_
              refine jn_keep [1, 2, 5, 6, 11, 14] [2] (.cons rfl (.cons rfl (.cons rfl (.cons rfl (.cons rfl (.cons rfl .nil)))))) (.cons rfl .nil) ?_
              refine jn_blk (jn_seq ?_)
              refine j_region ?_
              refine jg_adr _ rfl _ rfl rfl (op_move (.base rfl)) ?_
              refine jg_adr _ rfl _ rfl rfl (op_add (.base rfl) (.base rfl) (w64 (by omega))) ?_
              refine jg_adr _ rfl _ rfl rfl (op_assign (.base rfl)) ?_
              refine jg_nil ?_
              refine jn_keep [1, 2, 5, 6, 11, 14] [2] (.cons rfl (.cons rfl (.cons rfl (.cons rfl (.cons rfl (.cons rfl .nil)))))) (.cons rfl .nil) ?_
              first | exact jn_loop (fun a w hi => ⟨j + 1, (by first | omega | (simp; omega)), (by omega), Sub.inv ⟨(by repeat (first | exact SubS_nil | refine SubS_cons rfl (by first | rfl | (simp; done) | assumption | exact congrArg (SV.tv (rSlice (rInt .i64))) hs2) ?_)), (by repeat (first | exact SubH_nil | refine SubH_cons rfl (by first | rfl | (simp; done) | assumption) ?_))⟩ hi⟩)
            · have hs2 : (uniqS (((accD (scN s) ((scR s).take k) d) ++ (uniqS (refs pDef (rlG (scR s)[k]))).filter (inN (scN s))) ++ ((uniqS (refs pDef (rlV (scR s)[k]))).take j).filter (inN (scN s)))) = uniqS (((accD (scN s) ((scR s).take k) d) ++ (uniqS (refs pDef (rlG (scR s)[k]))).filter (inN (scN s))) ++ ((uniqS (refs pDef (rlV (scR s)[k]))).take (j + 1)).filter (inN (scN s))) := by rw [flt_f h16 (by simpa using h18)]
              refine j_skip (jn_blk (jn_seq ?_))
              refine j_region ?_
              refine jg_adr _ rfl _ rfl rfl (op_move (.base rfl)) ?_
              refine jg_adr _ rfl _ rfl rfl (op_add (.base rfl) (.base rfl) (w64 (by omega))) ?_
              refine jg_adr _ rfl _ rfl rfl (op_assign (.base rfl)) ?_
              refine jg_nil ?_
              refine jn_keep [1, 2, 5, 6, 11, 14] [2] (.cons rfl (.cons rfl (.cons rfl (.cons rfl (.cons rfl (.cons rfl .nil)))))) (.cons rfl .nil) ?_
              first | exact jn_loop (fun a w hi => ⟨j + 1, (by first | omega | (simp; omega)), (by omega), Sub.inv ⟨(by repeat (first | exact SubS_nil | refine SubS_cons rfl (by first | rfl | (simp; done) | assumption | exact congrArg (SV.tv (rSlice (rInt .i64))) hs2) ?_)), (by repeat (first | exact SubH_nil | refine SubH_cons rfl (by first | rfl | (simp; done) | assumption) ?_))⟩ hi⟩)
          · have h16 : j = (uniqS (refs pDef (rlV (scR s)[k]))).length := by simp at h16; omega
            rw [h16, List.take_length]
            have hst : uniqS (((accD (scN s) ((scR s).take k) d) ++ (uniqS (refs pDef (rlG (scR s)[k]))).filter (inN (scN s))) ++ (uniqS (refs pDef (rlV (scR s)[k]))).filter (inN (scN s))) = uniqS (accD (scN s) ((scR s).take (k + 1)) d) := by rw [accD_t h5 h7, List.append_assoc]; rfl
            refine j_exit (je_seq (je_loop (je_blk (jn_blk (jn_seq ?_)))))
            refine j_region ?_
            refine jg_adr _ rfl _ rfl rfl (op_move (.base rfl)) ?_
            refine jg_adr _ rfl _ rfl rfl (op_add (.base rfl) (.base rfl) (w64 (by omega))) ?_
            refine jg_adr _ rfl _ rfl rfl (op_assign (.base rfl)) ?_
            refine jg_nil ?_
            refine jn_keep [1, 2, 5, 6] [2] (.cons rfl (.cons rfl (.cons rfl (.cons rfl .nil)))) (.cons rfl .nil) ?_
            first | (have _hh := hsf; exact jn_loop (fun a w hi => ⟨k + 1, (by first | omega | (simp; omega)), (by omega), Sub.inv ⟨(by repeat (first | exact SubS_nil | refine SubS_cons rfl (by first | rfl | (simp; done) | assumption | exact congrArg (SV.tv (rSlice (rInt .i64))) hsf) ?_)), (by repeat (first | exact SubH_nil | refine SubH_cons rfl (by first | rfl | (simp; done) | assumption) ?_))⟩ hi⟩)) | (have _hh := hst; exact jn_loop (fun a w hi => ⟨k + 1, (by first | omega | (simp; omega)), (by omega), Sub.inv ⟨(by repeat (first | exact SubS_nil | refine SubS_cons rfl (by first | rfl | (simp; done) | assumption | exact congrArg (SV.tv (rSlice (rInt .i64))) hst) ?_)), (by repeat (first | exact SubH_nil | refine SubH_cons rfl (by first | rfl | (simp; done) | assumption) ?_))⟩ hi⟩))
    · have hke : k = (scR s).length := by simp at h5; omega
      subst hke
      rw [List.take_length]
      refine j_exit (je_seq (je_loop (je_blk (jn_seq (j_seq ?_)))))
      refine j_region ?_
      refine jg_adr _ rfl _ rfl rfl (op_move (.base rfl)) ?_
      refine jg_adr _ rfl _ rfl rfl (op_assign (.base rfl)) ?_
      refine jg_nil ?_
      refine jn_keep [4] [] (.cons rfl .nil) .nil ?_
      refine jn_seq (j_ret ?_)
      exact jr_fin1 Try.results17 (res_tmp rfl) rfl (congrArg (SV.tv (rSlice (rInt .i64))) (dirs_in h2).symm)

end Go.Proofs.Ytemcooggkcneiaa
