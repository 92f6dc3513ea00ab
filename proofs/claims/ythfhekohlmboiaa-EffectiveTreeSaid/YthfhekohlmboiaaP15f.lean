import Derived.Test.YthfhekohlmboiaaP15e
namespace Go.Proofs.Ythfhekohlmboiaa
open Go.Eng
set_option maxRecDepth 100000
set_option maxHeartbeats 4000000
set_option linter.unusedVariables false
set_option linter.unusedSimpArgs false

theorem scopeOn_ok (s : TScope) (date : Int) (hS : SLim s) : Ct Try.prog 30 [.tv rScope s, .raw (.int .i64 date)] (.tv rScope (scpOn date s)) := by
  refine ct_intro Try.func30 rfl rfl Try.ntmps30 rfl rfl ?_
  intro w0 ok0
  obtain ⟨hI, hD, hlm, hR⟩ := hS
  refine j_seq ?_
  refine j_region ?_
  refine jg_os _ rfl (op_box (.tv (.base rfl)) rfl rfl rfl) ?_
  refine jg_adr _ rfl _ rfl rfl (op_boxe (rt := rInt .i64) (.raw (.base rfl) rfl)) ?_
  refine jg_os _ rfl (op_alloc _ z40 rfl rfl rfl) ?_
  refine jg_nil ?_
  refine jn_keep [2, 3, 4] [2, 4] (.cons rfl (.cons rfl (.cons rfl .nil))) (.cons rfl (.cons rfl .nil)) ?_
  refine jn_seq (j_seq ?_)
  refine j_region ?_
  refine jg_adr _ rfl _ rfl rfl (op_ofield fld40_4 (.base rfl)) ?_
  refine jg_adr _ rfl _ rfl rfl (op_oload ty38 (.base rfl) rfl rfl ln40_4) ?_
  refine jg_adr _ rfl _ rfl rfl (op_mkfun (A := rRule) (B := rBool) (sa := [.eptr (rInt .i64) date]) (φ := fun _ => True) (fA date) (callFunc_enter Try.func48 rfl (by kernel_rfl)) (fun x _ => scopeC_ok x date) (.cons (.base rfl) .nil) rfl) ?_
  refine jg_adr _ rfl _ rfl rfl (op_call (remaining_ok _ _ (by omega)) (.cons (.base rfl) (.cons (.base rfl) .nil)) rfl rfl) ?_
  refine jg_adr _ rfl _ rfl rfl (op_move (.base rfl)) ?_
  refine jg_adr _ rfl _ rfl rfl (op_ext20 (.base rfl)) ?_
  refine jg_adr _ rfl _ rfl rfl (op_ext21 (.base rfl)) ?_
  refine jg_adr _ rfl _ rfl rfl (op_assign (.base rfl)) ?_
  refine jg_adr _ rfl _ rfl rfl (op_assign (.base rfl)) ?_
  refine jg_nil ?_
  refine jn_keep [2, 4, 5, 6] [2, 4] (.cons rfl (.cons rfl (.cons rfl (.cons rfl .nil)))) (.cons rfl (.cons rfl .nil)) ?_
  refine jn_seq (j_seq ?_)
  refine j_region ?_
  refine jg_adr _ rfl _ rfl rfl (op_assign (.base rfl)) ?_
  refine jg_nil ?_
  refine jn_keep [2, 4, 5, 6, 7] [2, 4] (.cons rfl (.cons rfl (.cons rfl (.cons rfl (.cons rfl .nil))))) (.cons rfl (.cons rfl .nil)) ?_
  refine jn_seq (j_seq (j_seq ?_))
  have q1 := idxI_len (fA date) s.2.2.2.2 s.2.2.2.2.length
  have q2 := idxs_len (fA date) s.2.2.2.2 s.2.2.2.2.length
  have q3 := parI_len (fA date) s.2.2.2.2 s.2.2.2.2.length
  refine j_region ?_
  refine jg_adr _ rfl _ rfl rfl (op_move (.base rfl)) ?_
  refine jg_adr _ rfl _ rfl rfl (op_len Try.underlying32 (.base rfl)) ?_
  refine jg_adr _ rfl _ rfl rfl (op_move (.base rfl)) ?_
  refine jg_nil ?_
  refine jn_keep [2, 4, 6, 7, 18, 19, 20] [2, 4] (.cons rfl (.cons rfl (.cons rfl (.cons rfl (.cons rfl (.cons rfl (.cons rfl .nil))))))) (.cons rfl (.cons rfl .nil)) ?_
  refine jn_seq (j_block ?_)
  refine j_vac 70 7 rRule rfl rfl rfl ?_
  refine j_loopp (ι := Nat) (fun k => ⟨[(2, .optr 2 rScope.n 0 0), (4, .optr 4 rScope.n 0 0), (6, .tv (rSlice (rInt .i64)) (parI (fA date) s.2.2.2.2 s.2.2.2.2.length)), (7, .own 70 rRule.n 0 (rulK (fA date) s.2.2.2.2 s.2.2.2.2.length k).length), (18, .tv (rSlice (rInt .i64)) (idxI (fA date) s.2.2.2.2 s.2.2.2.2.length)), (19, .raw (.int .i64 ((idxI (fA date) s.2.2.2.2 s.2.2.2.2.length).length))), (20, .raw (.int .i64 ((k : Nat))))], [(2, ⟨rScope, [s]⟩), (4, ⟨rScope, [([], 0, [], [], [])]⟩), (70, ⟨rRule, (rulK (fA date) s.2.2.2.2 s.2.2.2.2.length k)⟩)]⟩) (fun k => k ≤ (idxs (fA date) s.2.2.2.2 s.2.2.2.2.length).length) (fun k => (idxs (fA date) s.2.2.2.2 s.2.2.2.2.length).length - k) 0 (Nat.zero_le _) (fun a w hi => (Sub.inv ⟨(by repeat (first | exact SubS_nil | refine SubS_cons rfl (by first | rfl | (simp; done) | assumption) ?_)), (by repeat (first | exact SubH_nil | refine SubH_cons rfl (by first | rfl | (simp; done) | assumption) ?_))⟩ hi)) ?_
  rintro k hk
  have q4 := rulK_len (f := (fA date)) (l := s.2.2.2.2) (n := s.2.2.2.2.length) (k := k)
  refine j_seq ?_
  refine j_region ?_
  refine jg_adr _ rfl _ rfl rfl (op_lss (.base rfl) (.base rfl)) ?_
  refine jg_nil ?_
  refine jn_keep [2, 4, 6, 7, 18, 19, 20, 21] [2, 4, 70] (.cons rfl (.cons rfl (.cons rfl (.cons rfl (.cons rfl (.cons rfl (.cons rfl (.cons rfl .nil)))))))) (.cons rfl (.cons rfl (.cons rfl .nil))) ?_
  refine jn_seq (j_seq ?_)
  refine j_cond rfl (fun h4 => ?_) (fun h4 => ?_)
  · have h4 : k < (idxs (fA date) s.2.2.2.2 s.2.2.2.2.length).length := by simp at h4; omega
    have g2 := idxs_get_lt h4
    have hs := rulK_succ h4 g2
    have hgl := hR _ (List.getElem_mem g2)
    refine j_skip (jn_seq (j_seq (j_block (j_seq ?_))))
    refine j_region ?_
    refine jg_adr _ rfl _ rfl rfl (op_move (.base rfl)) ?_
    refine jg_adr _ rfl _ rfl rfl (op_index Try.underlying32 ty3 (.base rfl) (.base rfl) rfl (List.getElem?_eq_getElem (by first | omega | (simp; done) | (simp; omega) | (simp at hg; omega)))) ?_
    refine jg_adr _ rfl _ rfl rfl (op_load ty3 (.base rfl)) ?_
    refine jg_adr _ rfl _ rfl rfl (op_assign (.base rfl)) ?_
    refine jg_adr _ rfl _ rfl rfl (op_assign (.base rfl)) ?_
    refine jg_nil ?_
    refine jn_keep [2, 4, 6, 7, 8, 9, 18, 19, 20] [2, 4, 70] (.cons rfl (.cons rfl (.cons rfl (.cons rfl (.cons rfl (.cons rfl (.cons rfl (.cons rfl (.cons rfl .nil))))))))) (.cons rfl (.cons rfl (.cons rfl .nil))) ?_
    refine jn_seq (j_seq ?_)
    refine j_region ?_
    refine jg_adr _ rfl _ rfl rfl (op_ofield fld40_4 (.base rfl)) ?_
    refine jg_adr _ rfl _ rfl rfl (op_oload ty38 (.base rfl) rfl rfl ln40_4) ?_
    refine jg_adr _ rfl _ rfl rfl (op_move (.base rfl)) ?_
    refine jg_adr _ rfl _ rfl rfl (op_index Try.underlying38 ty48 (.base rfl) (.base rfl) (idxI_at h4) (List.getElem?_eq_getElem (by first | omega | (simp; done) | (simp; omega) | (simp at hg; omega)))) ?_
    refine jg_adr _ rfl _ rfl rfl (op_load ty48 (.base rfl)) ?_
    refine jg_os _ rfl (op_alloc _ z48 rfl rfl rfl) ?_
    refine jg_os _ rfl (op_ostore ty48 (.base rfl) rfl rfl (Lens.id _) (.tv (.base rfl))) ?_
    refine jg_nil ?_
    refine jn_keep [2, 4, 6, 7, 8, 10, 18, 19, 20] [2, 4, 10, 70] (.cons rfl (.cons rfl (.cons rfl (.cons rfl (.cons rfl (.cons rfl (.cons rfl (.cons rfl (.cons rfl .nil))))))))) (.cons rfl (.cons rfl (.cons rfl (.cons rfl .nil)))) ?_
    refine jn_seq (j_seq ?_)
    refine j_region ?_
    refine jg_adr _ rfl _ rfl rfl (op_move (.base rfl)) ?_
    refine jg_adr _ rfl _ rfl rfl (op_move (.base rfl)) ?_
    refine jg_adr _ rfl _ rfl rfl (op_index Try.underlying32 ty3 (.base rfl) (.base rfl) rfl (List.getElem?_eq_getElem (by first | omega | (simp; done) | (simp; omega) | (simp at hg; omega)))) ?_
    refine jg_adr _ rfl _ rfl rfl (op_load ty3 (.base rfl)) ?_
    refine jg_adr _ rfl _ rfl rfl (op_ofield fld48_2 (.base rfl)) ?_
    refine jg_os _ rfl (op_ostore ty3 (.base rfl) rfl rfl ln48_2 (.raw (.base rfl) rfl)) ?_
    refine jg_nil ?_
    refine jn_keep [2, 4, 6, 7, 10, 18, 19, 20] [2, 4, 10, 70] (.cons rfl (.cons rfl (.cons rfl (.cons rfl (.cons rfl (.cons rfl (.cons rfl (.cons rfl .nil)))))))) (.cons rfl (.cons rfl (.cons rfl (.cons rfl .nil)))) ?_
    refine jn_seq (j_seq ?_)
    refine j_region ?_
    refine jg_adr _ rfl _ rfl rfl (op_call alldates_ok .nil rfl rfl) ?_
    refine jg_adr _ rfl _ rfl rfl (op_ofield fld48_4 (.base rfl)) ?_
    refine jg_os _ rfl (op_ostore ty45 (.base rfl) rfl rfl ln48_4 (.tv (.base rfl))) ?_
    refine jg_nil ?_
    refine jn_keep [2, 4, 6, 7, 10, 18, 19, 20] [2, 4, 10, 70] (.cons rfl (.cons rfl (.cons rfl (.cons rfl (.cons rfl (.cons rfl (.cons rfl (.cons rfl .nil)))))))) (.cons rfl (.cons rfl (.cons rfl (.cons rfl .nil)))) ?_
    refine jn_seq (j_seq ?_)
    refine j_region ?_
    refine jg_adr _ rfl _ rfl rfl (op_ofield fld48_5 (.base rfl)) ?_
    refine jg_adr _ rfl _ rfl rfl (op_oload ty46 (.base rfl) rfl rfl ln48_5) ?_
    refine jg_adr _ rfl _ rfl rfl (op_call (cloneN_ok _ (Nat.le_trans hgl.1 (by decide))) (.cons (.base rfl) .nil) rfl rfl) ?_
    refine jg_adr _ rfl _ rfl rfl (op_ofield fld48_5 (.base rfl)) ?_
    refine jg_os _ rfl (op_ostore ty46 (.base rfl) rfl rfl ln48_5 (.tv (.base rfl))) ?_
    refine jg_nil ?_
    refine jn_keep [2, 4, 6, 7, 10, 18, 19, 20] [2, 4, 10, 70] (.cons rfl (.cons rfl (.cons rfl (.cons rfl (.cons rfl (.cons rfl (.cons rfl (.cons rfl .nil)))))))) (.cons rfl (.cons rfl (.cons rfl (.cons rfl .nil)))) ?_
    refine jn_seq (j_seq ?_)
    refine j_region ?_
    refine jg_adr _ rfl _ rfl rfl (op_ofield fld48_6 (.base rfl)) ?_
    refine jg_adr _ rfl _ rfl rfl (op_oload ty46 (.base rfl) rfl rfl ln48_6) ?_
    refine jg_adr _ rfl _ rfl rfl (op_call (cloneN_ok _ (Nat.le_trans hgl.2 (by decide))) (.cons (.base rfl) .nil) rfl rfl) ?_
    refine jg_adr _ rfl _ rfl rfl (op_ofield fld48_6 (.base rfl)) ?_
    refine jg_os _ rfl (op_ostore ty46 (.base rfl) rfl rfl ln48_6 (.tv (.base rfl))) ?_
    refine jg_nil ?_
    refine jn_keep [2, 4, 6, 7, 10, 18, 19, 20] [2, 4, 10, 70] (.cons rfl (.cons rfl (.cons rfl (.cons rfl (.cons rfl (.cons rfl (.cons rfl (.cons rfl .nil)))))))) (.cons rfl (.cons rfl (.cons rfl (.cons rfl .nil)))) ?_
    refine jn_seq ?_
    refine j_region ?_
    refine jg_adr _ rfl _ rfl rfl (op_move (.base rfl)) ?_
    refine jg_adr _ rfl _ rfl rfl (op_oload ty48 (.base rfl) rfl rfl (Lens.id _)) ?_
    refine jg_adr _ rfl _ rfl rfl (op_bslice (rt := rRule) Try.underlying38 ty48 z48 rfl (.cons (.tv (.base rfl)) .nil) rfl rfl) ?_
    refine jg_os _ rfl (op_append [2, 4, 6, 18, 19, 20] Try.underlying38 ty48 z48 rfl by48 (.base rfl) rfl (by (try simp); try omega) (.tv (.base rfl)) (by unfold maxLen; (try simp); try omega) (by (try simp); try omega) rfl (.cons rfl (.cons rfl (.cons rfl (.cons rfl (.cons rfl (.cons rfl .nil)))))) rfl) ?_
    refine jg_adr _ rfl _ rfl rfl (op_assign (.base rfl)) ?_
    refine jg_nil ?_
    refine jn_keep [2, 4, 6, 7, 18, 19, 20] [2, 4, 70] (.cons rfl (.cons rfl (.cons rfl (.cons rfl (.cons rfl (.cons rfl (.cons rfl .nil))))))) (.cons rfl (.cons rfl (.cons rfl .nil))) ?_
    refine jn_blk (jn_seq ?_)
    refine j_region ?_
    refine jg_adr _ rfl _ rfl rfl (op_add (.base rfl) (.base rfl) (w64 (by omega))) ?_
    refine jg_adr _ rfl _ rfl rfl (op_move (.base rfl)) ?_
    refine jg_nil ?_
    refine jn_keep [2, 4, 6, 7, 18, 19, 20] [2, 4, 70] (.cons rfl (.cons rfl (.cons rfl (.cons rfl (.cons rfl (.cons rfl (.cons rfl .nil))))))) (.cons rfl (.cons rfl (.cons rfl .nil))) ?_
    exact jn_loop (fun a w hi => ⟨k + 1, (by omega), (by omega), Sub.inv ⟨(by repeat (first | exact SubS_nil | refine SubS_cons rfl (by first | rfl | (refine congrArg (SV.own 70 rRule.n 0) ?_; first | (rw [hs]; simp; done))) ?_)), (by repeat (first | exact SubH_nil | refine SubH_cons rfl (by first | rfl | (refine congrArg (HB.mk rRule) ?_; first | rfl | (rw [hs, parI_at h4]; (try simp only [List.drop_zero, List.take_length]); first | done | rfl | (simp; done); done))) ?_))⟩ hi⟩)
  · simp at h4
    refine j_exit (je_seq (je_loop (je_blk (jn_seq (j_seq ?_)))))
    obtain rfl : k = (idxs (fA date) s.2.2.2.2 s.2.2.2.2.length).length := by omega
    rw [rulK_n]
    refine j_seal (rt := rRule) 70 7 (dropH 70 _) rfl rfl (by simp) (dropH_sub 70 _) (dropH_no 70 _) ?_
    rw [List.drop_zero, List.take_length]
    refine j_region ?_
    refine jg_adr _ rfl _ rfl rfl (op_ofield fld40_2 (.base rfl)) ?_
    refine jg_adr _ rfl _ rfl rfl (op_oload ty37 (.base rfl) rfl rfl ln40_2) ?_
    refine jg_adr _ rfl _ rfl rfl (op_call (cloneF_ok _ (Nat.le_trans hI (by decide))) (.cons (.base rfl) .nil) rfl rfl) ?_
    refine jg_adr _ rfl _ rfl rfl (op_ofield fld40_2 (.base rfl)) ?_
    refine jg_os _ rfl (op_ostore ty37 (.base rfl) rfl rfl ln40_2 (.tv (.base rfl))) ?_
    refine jg_nil ?_
    refine jn_keep [2, 4, 7] [2, 4] (.cons rfl (.cons rfl (.cons rfl .nil))) (.cons rfl (.cons rfl .nil)) ?_
    refine jn_seq (j_seq ?_)
    refine j_region ?_
    refine jg_adr _ rfl _ rfl rfl (op_ofield fld40_3 (.base rfl)) ?_
    refine jg_adr _ rfl _ rfl rfl (op_oload ty37 (.base rfl) rfl rfl ln40_3) ?_
    refine jg_adr _ rfl _ rfl rfl (op_call (cloneF_ok _ (Nat.le_trans hD (by decide))) (.cons (.base rfl) .nil) rfl rfl) ?_
    refine jg_adr _ rfl _ rfl rfl (op_ofield fld40_3 (.base rfl)) ?_
    refine jg_os _ rfl (op_ostore ty37 (.base rfl) rfl rfl ln40_3 (.tv (.base rfl))) ?_
    refine jg_nil ?_
    refine jn_keep [2, 4, 7] [2, 4] (.cons rfl (.cons rfl (.cons rfl .nil))) (.cons rfl (.cons rfl .nil)) ?_
    refine jn_seq (j_seq ?_)
    refine j_region ?_
    refine jg_adr _ rfl _ rfl rfl (op_move (.base rfl)) ?_
    refine jg_adr _ rfl _ rfl rfl (op_ofield fld40_4 (.base rfl)) ?_
    refine jg_os _ rfl (op_ostore ty38 (.base rfl) rfl rfl ln40_4 (.tv (.base rfl))) ?_
    refine jg_nil ?_
    refine jn_keep [2, 4] [2, 4] (.cons rfl (.cons rfl .nil)) (.cons rfl (.cons rfl .nil)) ?_
    refine jn_seq (j_seq ?_)
    refine j_region ?_
    refine jg_adr _ rfl _ rfl rfl (op_oload ty40 (.base rfl) rfl rfl (Lens.id _)) ?_
    refine jg_os _ rfl (op_ostore ty40 (.base rfl) rfl rfl (Lens.id _) (.tv (.base rfl))) ?_
    refine jg_nil ?_
    refine jn_keep [4] [4] (.cons rfl .nil) (.cons rfl .nil) ?_
    refine jn_seq (j_ret ?_)
    exact jr_fin1 Try.results30 (res_cell ty40 rfl rfl rfl (Lens.id rScope)) rfl rfl

theorem rscopeOn_ok (s : TScope) (date : Int) (hS : SLim s) : Ct Try.prog 32 [.tv rScope s, .raw (.int .i64 date)] (.tv rScope (scpOn date s)) := by
  refine ct_intro Try.func32 rfl rfl Try.ntmps32 rfl rfl ?_
  intro w0 ok0
  obtain ⟨hI, hD, hlm, hR⟩ := hS
  refine j_seq ?_
  refine j_region ?_
  refine jg_os _ rfl (op_box (.tv (.base rfl)) rfl rfl rfl) ?_
  refine jg_os _ rfl (op_alloc _ z40 rfl rfl rfl) ?_
  refine jg_nil ?_
  refine jn_keep [1, 2, 4] [2, 4] (.cons rfl (.cons rfl (.cons rfl .nil))) (.cons rfl (.cons rfl .nil)) ?_
  refine jn_seq (j_seq ?_)
  refine j_region ?_
  refine jg_adr _ rfl _ rfl rfl (op_assign (.base rfl)) ?_
  refine jg_nil ?_
  refine jn_keep [1, 2, 4, 5] [2, 4] (.cons rfl (.cons rfl (.cons rfl (.cons rfl .nil)))) (.cons rfl (.cons rfl .nil)) ?_
  refine jn_seq (j_seq (j_seq ?_))
  refine j_region ?_
  refine jg_adr _ rfl _ rfl rfl (op_assign (.base rfl)) ?_
  refine jg_nil ?_
  refine jn_keep [1, 2, 4, 5, 6] [2, 4] (.cons rfl (.cons rfl (.cons rfl (.cons rfl (.cons rfl .nil))))) (.cons rfl (.cons rfl .nil)) ?_
  refine jn_seq (j_block ?_)
  refine j_vac 71 5 (rInt .i64) rfl rfl rfl ?_
  refine j_loopp (ι := Nat) (fun k => ⟨[(1, .raw (.int .i64 (date))), (2, .optr 2 rScope.n 0 0), (4, .optr 4 rScope.n 0 0), (5, .own 71 (rInt .i64).n 0 (idxI (fA date) s.2.2.2.2 k).length), (6, .raw (.int .i64 ((k : Nat))))], [(2, ⟨rScope, [s]⟩), (4, ⟨rScope, [([], 0, [], [], [])]⟩), (71, ⟨rInt .i64, idxI (fA date) s.2.2.2.2 k⟩)]⟩) (fun k => k ≤ s.2.2.2.2.length) (fun k => s.2.2.2.2.length - k) 0 (Nat.zero_le _) (fun a w hi => (Sub.inv ⟨(by repeat (first | exact SubS_nil | refine SubS_cons rfl (by first | rfl | (simp; done) | assumption) ?_)), (by repeat (first | exact SubH_nil | refine SubH_cons rfl (by first | rfl | (simp; done) | assumption) ?_))⟩ hi)) ?_
  rintro k hk
  have q1 := idxI_len (fA date) s.2.2.2.2 k
  have q2 := idxs_len (fA date) s.2.2.2.2 k
  refine j_seq (j_seq ?_)
  refine j_region ?_
  refine jg_adr _ rfl _ rfl rfl (op_move (.base rfl)) ?_
  refine jg_adr _ rfl _ rfl rfl (op_ofield fld40_4 (.base rfl)) ?_
  refine jg_adr _ rfl _ rfl rfl (op_oload ty38 (.base rfl) rfl rfl ln40_4) ?_
  refine jg_adr _ rfl _ rfl rfl (op_len Try.underlying38 (.base rfl)) ?_
  refine jg_adr _ rfl _ rfl rfl (op_lss (.base rfl) (.base rfl)) ?_
  refine jg_nil ?_
  refine jn_keep [1, 2, 4, 5, 6, 14] [2, 4, 71] (.cons rfl (.cons rfl (.cons rfl (.cons rfl (.cons rfl (.cons rfl .nil)))))) (.cons rfl (.cons rfl (.cons rfl .nil))) ?_
  refine jn_seq ?_
  refine j_cond rfl (fun h3 => ?_) (fun h3 => ?_)
  · simp at h3
    have hka := keepAt_get (f := (fA date)) h3
    refine j_skip (jn_seq (j_seq (j_block (j_seq ?_))))
    refine j_region ?_
    refine jg_adr _ rfl _ rfl rfl (op_ofield fld40_4 (.base rfl)) ?_
    refine jg_adr _ rfl _ rfl rfl (op_oload ty38 (.base rfl) rfl rfl ln40_4) ?_
    refine jg_adr _ rfl _ rfl rfl (op_move (.base rfl)) ?_
    refine jg_adr _ rfl _ rfl rfl (op_index Try.underlying38 ty48 (.base rfl) (.base rfl) rfl (List.getElem?_eq_getElem (by first | omega | (simp; done) | (simp; omega) | (simp at hg; omega)))) ?_
    refine jg_adr _ rfl _ rfl rfl (op_field fld48_4 ln48_4 (.base rfl)) ?_
    refine jg_adr _ rfl _ rfl rfl (op_load ty45 (.base rfl)) ?_
    refine jg_adr _ rfl _ rfl rfl (op_move (.base rfl)) ?_
    refine jg_adr _ rfl _ rfl rfl (op_call (drcont_ok _ _) (.cons (.base rfl) (.cons (.base rfl) .nil)) rfl rfl) ?_
    refine jg_nil ?_
    refine jn_keep [1, 2, 4, 5, 6, 24] [2, 4, 71] (.cons rfl (.cons rfl (.cons rfl (.cons rfl (.cons rfl (.cons rfl .nil)))))) (.cons rfl (.cons rfl (.cons rfl .nil))) ?_
    refine jn_seq ?_
    refine j_cond rfl (fun h5 => ?_) (fun h5 => ?_)
    · have h5 : keepAt (fA date) s.2.2.2.2 k = true := by rw [hka]; simp [fA, List.getElem?_eq_getElem h3] at h5 ⊢; exact h5
      have hs := idxI_t h5
      refine j_region ?_
      refine jg_adr _ rfl _ rfl rfl (op_move (.base rfl)) ?_
      refine jg_adr _ rfl _ rfl rfl (op_move (.base rfl)) ?_
      refine jg_adr _ rfl _ rfl rfl (op_bslice (rt := (rInt .i64)) Try.underlying32 ty3 z3 rfl (.cons (.raw (.base rfl) rfl) .nil) rfl rfl) ?_
      refine jg_os _ rfl (op_append [1, 2, 4, 6] Try.underlying32 ty3 z3 rfl by3 (.base rfl) rfl (by (try simp); try omega) (.tv (.base rfl)) (by unfold maxLen; (try simp); try omega) (by (try simp); try omega) rfl (.cons rfl (.cons rfl (.cons rfl (.cons rfl .nil)))) rfl) ?_
      refine jg_adr _ rfl _ rfl rfl (op_assign (.base rfl)) ?_
      refine jg_nil ?_
      refine jn_keep [1, 2, 4, 5, 6] [2, 4, 71] (.cons rfl (.cons rfl (.cons rfl (.cons rfl (.cons rfl .nil))))) (.cons rfl (.cons rfl (.cons rfl .nil))) ?_
      refine jn_blk (jn_seq ?_)
      refine j_region ?_
      refine jg_adr _ rfl _ rfl rfl (op_move (.base rfl)) ?_
      refine jg_adr _ rfl _ rfl rfl (op_add (.base rfl) (.base rfl) (w64 (by omega))) ?_
      refine jg_adr _ rfl _ rfl rfl (op_assign (.base rfl)) ?_
      refine jg_nil ?_
      refine jn_keep [1, 2, 4, 5, 6] [2, 4, 71] (.cons rfl (.cons rfl (.cons rfl (.cons rfl (.cons rfl .nil))))) (.cons rfl (.cons rfl (.cons rfl .nil))) ?_
      exact jn_loop (fun a w hi => ⟨k + 1, (by omega), (by omega), Sub.inv ⟨(by repeat (first | exact SubS_nil | refine SubS_cons rfl (by first | rfl | (refine congrArg (SV.own 71 (rInt .i64).n 0) ?_; first | (rw [hs]; simp; done) | (rw [hs]; done))) ?_)), (by repeat (first | exact SubH_nil | refine SubH_cons rfl (by first | rfl | (refine congrArg (HB.mk (rInt .i64)) ?_; first | rfl | (rw [hs]; (try simp only [List.drop_zero, List.take_length]); first | done | rfl | (simp; done); done) | (rw [hs]; done))) ?_))⟩ hi⟩)
    · have h5 : ¬ keepAt (fA date) s.2.2.2.2 k = true := by rw [hka]; simp [fA, List.getElem?_eq_getElem h3] at h5 ⊢; exact h5
      have hs := idxI_f h5
      refine j_skip (jn_blk (jn_seq ?_))
      refine j_region ?_
      refine jg_adr _ rfl _ rfl rfl (op_move (.base rfl)) ?_
      refine jg_adr _ rfl _ rfl rfl (op_add (.base rfl) (.base rfl) (w64 (by omega))) ?_
      refine jg_adr _ rfl _ rfl rfl (op_assign (.base rfl)) ?_
      refine jg_nil ?_
      refine jn_keep [1, 2, 4, 5, 6] [2, 4, 71] (.cons rfl (.cons rfl (.cons rfl (.cons rfl (.cons rfl .nil))))) (.cons rfl (.cons rfl (.cons rfl .nil))) ?_
      exact jn_loop (fun a w hi => ⟨k + 1, (by omega), (by omega), Sub.inv ⟨(by repeat (first | exact SubS_nil | refine SubS_cons rfl (by first | rfl | (refine congrArg (SV.own 71 (rInt .i64).n 0) ?_; first | (rw [hs]; simp; done) | (rw [hs]; done))) ?_)), (by repeat (first | exact SubH_nil | refine SubH_cons rfl (by first | rfl | (refine congrArg (HB.mk (rInt .i64)) ?_; first | rfl | (rw [hs]; (try simp only [List.drop_zero, List.take_length]); first | done | rfl | (simp; done); done) | (rw [hs]; done))) ?_))⟩ hi⟩)
  · simp at h3
    refine j_exit (je_seq (je_loop (je_blk (jn_seq (j_seq ?_)))))
    obtain rfl : k = s.2.2.2.2.length := by omega
    refine j_seal (rt := rInt .i64) 71 5 (dropH 71 _) rfl rfl (by simp) (dropH_sub 71 _) (dropH_no 71 _) ?_
    rw [List.drop_zero, List.take_length]
    refine j_region ?_
    refine jg_adr _ rfl _ rfl rfl (op_oload ty40 (.base rfl) rfl rfl (Lens.id _)) ?_
    refine jg_os _ rfl (op_alloc _ z40 rfl rfl rfl) ?_
    refine jg_os _ rfl (op_ostore ty40 (.base rfl) rfl rfl (Lens.id _) (.tv (.base rfl))) ?_
    refine jg_nil ?_
    refine jn_keep [2, 4, 5, 7] [2, 4, 7] (.cons rfl (.cons rfl (.cons rfl (.cons rfl .nil)))) (.cons rfl (.cons rfl (.cons rfl .nil))) ?_
    refine jn_seq (j_seq ?_)
    refine j_openH 7 rScopeH (openH_pair _ (openH_pair _ (openH_pair _ (openH_pair _ openH_hd)))) rfl rfl (fun y0 => ?_)
    refine j_region ?_
    refine jg_adr _ rfl _ rfl rfl (op_ofield fld40_4 (.base rfl)) ?_
    refine jg_os _ rfl (op_ostore (rt := rScopeH) tyH38 (.base rfl) rfl rfl ln_rScopeH_4 (.raw (d := (none, 0, 0)) (.base rfl) rfl)) ?_
    refine jg_nil ?_
    refine jn_keep [2, 4, 5, 7] [2, 4, 7] (.cons rfl (.cons rfl (.cons rfl (.cons rfl .nil)))) (.cons rfl (.cons rfl (.cons rfl .nil))) ?_
    refine jn_seq (j_seq (j_seq ?_))
    have q1 := idxI_len (fA date) s.2.2.2.2 s.2.2.2.2.length
    have q2 := idxs_len (fA date) s.2.2.2.2 s.2.2.2.2.length
    refine j_vacL 7 70 rRule rfl rfl rfl ?_
    refine j_region ?_
    refine jg_adr _ rfl _ rfl rfl (op_assign (.base rfl)) ?_
    refine jg_nil ?_
    refine jn_keep [2, 4, 5, 7, 8] [2, 4, 7, 70] (.cons rfl (.cons rfl (.cons rfl (.cons rfl (.cons rfl .nil))))) (.cons rfl (.cons rfl (.cons rfl (.cons rfl .nil)))) ?_
    refine jn_seq (j_block ?_)
    refine j_loopp (ι := Nat × Option Addr × Nat) (fun (k, A, cap) => ⟨[(2, .optr 2 rScope.n 0 0), (4, .optr 4 rScope.n 0 0), (5, .tv (rSlice (rInt .i64)) (idxI (fA date) s.2.2.2.2 s.2.2.2.2.length)), (7, .lnk (.optr 7 rScope.n 0 0) (.slice A (rulK (fA date) s.2.2.2.2 s.2.2.2.2.length k).length cap) (.own 70 rRule.n 0 (rulK (fA date) s.2.2.2.2 s.2.2.2.2.length k).length)), (8, .raw (.int .i64 ((k : Nat))))], [(2, ⟨rScope, [s]⟩), (4, ⟨rScope, [([], 0, [], [], [])]⟩), (7, ⟨rScopeH, [(s.1, s.2.1, s.2.2.1, s.2.2.2.1, (A, (rulK (fA date) s.2.2.2.2 s.2.2.2.2.length k).length, cap))]⟩), (70, ⟨rRule, (rulK (fA date) s.2.2.2.2 s.2.2.2.2.length k)⟩)]⟩) (fun (k, A, cap) => k ≤ (idxs (fA date) s.2.2.2.2 s.2.2.2.2.length).length) (fun (k, A, cap) => (idxs (fA date) s.2.2.2.2 s.2.2.2.2.length).length - k) (0, none, 0) (Nat.zero_le _) (fun a w hi => (Sub.inv ⟨(by repeat (first | exact SubS_nil | refine SubS_cons rfl (by first | rfl | (simp; done) | assumption) ?_)), (by repeat (first | exact SubH_nil | refine SubH_cons rfl (by first | rfl | (simp; done) | assumption) ?_))⟩ hi)) ?_
    rintro ⟨k, A, cap⟩ hk
    have q4 := rulK_len (f := (fA date)) (l := s.2.2.2.2) (n := s.2.2.2.2.length) (k := k)
    refine j_seq (j_seq ?_)
    refine j_region ?_
    refine jg_adr _ rfl _ rfl rfl (op_move (.base rfl)) ?_
    refine jg_adr _ rfl _ rfl rfl (op_move (.base rfl)) ?_
    refine jg_adr _ rfl _ rfl rfl (op_len Try.underlying32 (.base rfl)) ?_
    refine jg_adr _ rfl _ rfl rfl (op_lss (.base rfl) (.base rfl)) ?_
    refine jg_nil ?_
    refine jn_keep [2, 4, 5, 7, 8, 34] [2, 4, 7, 70] (.cons rfl (.cons rfl (.cons rfl (.cons rfl (.cons rfl (.cons rfl .nil)))))) (.cons rfl (.cons rfl (.cons rfl (.cons rfl .nil)))) ?_
    refine jn_seq ?_
    refine j_cond rfl (fun h10 => ?_) (fun h10 => ?_)
    · have h10 : k < (idxs (fA date) s.2.2.2.2 s.2.2.2.2.length).length := by simp at h10; omega
      have g2 := idxs_get_lt h10
      have hs := rulK_succ h10 g2
      have hsl := congrArg List.length hs
      rw [List.length_append] at hsl
      refine j_skip (jn_seq (j_seq (j_block (j_seq ?_))))
      refine j_drawE mo (by kernel_rfl) (
        AE.cons _ _ _ rfl (gh_ga [2] (ga_adr rfl rfl rfl (op_ofield fld40_4 (.base rfl))) (by kernel_rfl)) (
        AE.cons _ _ _ rfl (gh_ga [2] (ga_adr rfl rfl rfl (op_oload ty38 (.base rfl) rfl rfl ln40_4)) (by kernel_rfl)) (
        AE.cons _ _ _ rfl (gh_ga [] (ga_adr rfl rfl rfl (op_move (.base rfl))) (by kernel_rfl)) (
        AE.cons _ _ _ rfl (gh_ga [] (ga_adr rfl rfl rfl (op_move (.base rfl))) (by kernel_rfl)) (
        AE.cons _ _ _ rfl (gh_ga [] (ga_adr rfl rfl rfl (op_index Try.underlying32 ty3 (.base rfl) (.base rfl) rfl (List.getElem?_eq_getElem (by first | omega | (simp; done) | (simp; omega) | (simp at hg; omega))))) (by kernel_rfl)) (
        AE.cons _ _ _ rfl (gh_ga [] (ga_adr rfl rfl rfl (op_load ty3 (.base rfl))) (by kernel_rfl)) (
        AE.cons _ _ _ rfl (gh_ga [] (ga_adr rfl rfl rfl (op_index Try.underlying38 ty48 (.base rfl) (.base rfl) (idxI_at h10) (List.getElem?_eq_getElem (by first | omega | (simp; done) | (simp; omega) | (simp at hg; omega))))) (by kernel_rfl)) (
        AE.cons _ _ _ rfl (gh_ga [] (ga_adr rfl rfl rfl (op_load ty48 (.base rfl))) (by kernel_rfl)) (
        AE.cons _ _ _ rfl (gh_alloc _ z48 rfl) (
        AE.cons _ _ _ rfl (gh_store ty48 (.base rfl) rfl rfl (Lens.id _) (.tv (.base rfl))) (
        AE.nil))))))))))) (by kernel_rfl) ?_
      refine jn_keep [2, 4, 5, 7, 8, 9] [2, 4, 7, 9, 70] (.cons rfl (.cons rfl (.cons rfl (.cons rfl (.cons rfl (.cons rfl .nil)))))) (.cons rfl (.cons rfl (.cons rfl (.cons rfl (.cons rfl .nil))))) ?_
      refine jn_seq (j_seq ?_)
      refine j_drawE mo (by kernel_rfl) (
        AE.cons _ _ _ rfl (gh_ga [2] (ga_adr rfl rfl rfl (op_oload ty40 (.base rfl) rfl rfl (Lens.id _))) (by kernel_rfl)) (
        AE.cons _ _ _ rfl (gh_ga [] (ga_adr rfl rfl rfl (op_move (.base rfl))) (by kernel_rfl)) (
        AE.cons _ _ _ rfl (gh_ga [] (ga_adr rfl rfl rfl (op_move (.base rfl))) (by kernel_rfl)) (
        AE.cons _ _ _ rfl (gh_ga [] (ga_adr rfl rfl rfl (op_move (.base rfl))) (by kernel_rfl)) (
        AE.cons _ _ _ rfl (gh_ga [] (ga_adr rfl rfl rfl (op_index Try.underlying32 ty3 (.base rfl) (.base rfl) rfl (List.getElem?_eq_getElem (by first | omega | (simp; done) | (simp; omega) | (simp at hg; omega))))) (by kernel_rfl)) (
        AE.cons _ _ _ rfl (gh_ga [] (ga_adr rfl rfl rfl (op_load ty3 (.base rfl))) (by kernel_rfl)) (
        AE.cons _ _ _ rfl (gh_ga [] (ga_adr rfl rfl rfl (op_call (rparent_at (Nat.le_refl _) h10) (.cons (.base rfl) (.cons (.base rfl) (.cons (.base rfl) .nil))) rfl rfl)) (by kernel_rfl)) (
        AE.cons _ _ _ rfl (gh_ga [9] (ga_adr rfl rfl rfl (op_ofield fld48_2 (.base rfl))) (by kernel_rfl)) (
        AE.cons _ _ _ rfl (gh_store ty3 (.base rfl) rfl rfl ln48_2 (.raw (.base rfl) rfl)) (
        AE.nil)))))))))) (by kernel_rfl) ?_
      refine jn_keep [2, 4, 5, 7, 8, 9] [2, 4, 7, 9, 70] (.cons rfl (.cons rfl (.cons rfl (.cons rfl (.cons rfl (.cons rfl .nil)))))) (.cons rfl (.cons rfl (.cons rfl (.cons rfl (.cons rfl .nil))))) ?_
      refine jn_seq (j_seq ?_)
      refine j_region ?_
      refine jg_adr _ rfl _ rfl rfl (op_call rall_ok .nil rfl rfl) ?_
      refine jg_adr _ rfl _ rfl rfl (op_ofield fld48_4 (.base rfl)) ?_
      refine jg_os _ rfl (op_ostore ty45 (.base rfl) rfl rfl ln48_4 (.tv (.base rfl))) ?_
      refine jg_nil ?_
      refine jn_keep [2, 4, 5, 7, 8, 9] [2, 4, 7, 9, 70] (.cons rfl (.cons rfl (.cons rfl (.cons rfl (.cons rfl (.cons rfl .nil)))))) (.cons rfl (.cons rfl (.cons rfl (.cons rfl (.cons rfl .nil))))) ?_
      refine jn_seq ?_
      refine j_region ?_
      refine jg_adr _ rfl _ rfl rfl (op_ofield fld40_4 (.l1 rfl)) ?_
      refine jg_adr _ rfl _ rfl rfl (op_oload (rt := rScopeH) tyH38 (.base rfl) rfl rfl ln_rScopeH_4) ?_
      refine jg_takeL 7 56 rfl rfl rfl ?_
      refine jg_adr _ rfl _ rfl rfl (op_oload ty48 (.base rfl) rfl rfl (Lens.id _)) ?_
      refine jg_adr _ rfl _ rfl rfl (op_bslice (rt := rRule) Try.underlying38 ty48 z48 rfl (.cons (.tv (.base rfl)) .nil) rfl rfl) ?_
      refine jg_os _ rfl (op_append [2, 4, 5, 7, 8] Try.underlying38 ty48 z48 rfl by48 (.base rfl) rfl (by (try simp); try omega) (.tv (.base rfl)) (by unfold maxLen; (try simp); try omega) (by (try simp); try omega) rfl (.cons rfl (.cons rfl (.cons rfl (.cons rfl (.cons rfl .nil))))) rfl) ?_
      refine jg_giveL 7 59 rfl rfl (fun A2 cap2 => ?_)
      refine jg_adr _ rfl _ rfl rfl (op_ofield fld40_4 (.l1 rfl)) ?_
      refine jg_os _ rfl (op_ostore (rt := rScopeH) tyH38 (.base rfl) rfl rfl ln_rScopeH_4 (.raw (d := (A2, _, cap2)) (.base rfl) rfl)) ?_
      refine jg_nil ?_
      refine jn_keep [2, 4, 5, 7, 8] [2, 4, 7, 70] (.cons rfl (.cons rfl (.cons rfl (.cons rfl (.cons rfl .nil))))) (.cons rfl (.cons rfl (.cons rfl (.cons rfl .nil)))) ?_
      refine jn_blk (jn_seq ?_)
      refine j_region ?_
      refine jg_adr _ rfl _ rfl rfl (op_move (.base rfl)) ?_
      refine jg_adr _ rfl _ rfl rfl (op_add (.base rfl) (.base rfl) (w64 (by omega))) ?_
      refine jg_adr _ rfl _ rfl rfl (op_assign (.base rfl)) ?_
      refine jg_nil ?_
      refine jn_keep [2, 4, 5, 7, 8] [2, 4, 7, 70] (.cons rfl (.cons rfl (.cons rfl (.cons rfl (.cons rfl .nil))))) (.cons rfl (.cons rfl (.cons rfl (.cons rfl .nil)))) ?_
      first | (have _hA2 := A2; exact jn_loop (fun a w hi => ⟨(k + 1, A2, cap2), (by show _ - (k + 1) < _ - k; omega), (by show k + 1 ≤ _; omega), Sub.inv ⟨(by repeat (first | exact SubS_nil | refine SubS_cons rfl (by first | rfl | (rw [hsl]; rfl) | (rw [hsl]; done) | (rw [hs])) ?_)), (by repeat (first | exact SubH_nil | refine SubH_cons rfl (by first | rfl | (refine congrArg (HB.mk rRule) ?_; first | rfl | (rw [hs]; (try simp only [List.drop_zero, List.take_length]); first | done | rfl | (simp; done); done) | (rw [hs]; done)) | (rw [hsl]; rfl) | (rw [hsl]; done) | (rw [hs]; done)) ?_))⟩ hi⟩)) | exact jn_loop (fun a w hi => ⟨(k + 1, A, cap), (by show _ - (k + 1) < _ - k; omega), (by show k + 1 ≤ _; omega), Sub.inv ⟨(by repeat (first | exact SubS_nil | refine SubS_cons rfl (by first | rfl | (rw [hsl]; rfl) | (rw [hsl]; done) | (rw [hs])) ?_)), (by repeat (first | exact SubH_nil | refine SubH_cons rfl (by first | rfl | (refine congrArg (HB.mk rRule) ?_; first | rfl | (rw [hs]; (try simp only [List.drop_zero, List.take_length]); first | done | rfl | (simp; done); done) | (rw [hs]; done)) | (rw [hsl]; rfl) | (rw [hsl]; done) | (rw [hs]; done)) ?_))⟩ hi⟩)
    · simp at h10
      refine j_exit (je_seq (je_loop (je_blk (jn_seq (j_seq ?_)))))
      obtain rfl : k = (idxs (fA date) s.2.2.2.2 s.2.2.2.2.length).length := by omega
      refine j_sealL (rt := rRule) 70 7 (dropH 70 _) rfl rfl (by simp) (dropH_sub 70 _) (dropH_no 70 _) ?_
      rw [List.drop_zero, List.take_length, rulK_n]
      refine j_castL 7 7 rScope (s.1, s.2.1, s.2.2.1, s.2.2.2.1, rulOn (fA date) s.2.2.2.2) (casts_pair _ (casts_pair _ (casts_pair _ (casts_pair _ casts_hd)))) rfl rfl rfl ?_
      refine j_region ?_
      refine jg_adr _ rfl _ rfl rfl (op_oload ty40 (.base rfl) rfl rfl (Lens.id _)) ?_
      refine jg_os _ rfl (op_ostore ty40 (.base rfl) rfl rfl (Lens.id _) (.tv (.base rfl))) ?_
      refine jg_nil ?_
      refine jn_keep [4] [4] (.cons rfl .nil) (.cons rfl .nil) ?_
      refine jn_seq (j_ret ?_)
      exact jr_fin1 Try.results32 (res_cell ty40 rfl rfl rfl (Lens.id rScope)) rfl rfl

end Go.Proofs.Ythfhekohlmboiaa
