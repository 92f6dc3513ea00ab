import Derived.Test.YthfhekohlmboiaaP15m
namespace Go.Proofs.Ythfhekohlmboiaa
open Go.Eng
set_option maxRecDepth 100000
set_option maxHeartbeats 4000000
set_option linter.unusedVariables false
set_option linter.unusedSimpArgs false


theorem cat_nil {α : Type} (X : List α) : ((((([] : List α).drop 0).take ([] : List α).length) ++ X).drop 0).take (([] : List α).length + X.length) = X := by simp
theorem take_s {α : Type} {l : List α} {k : Nat} (h : k < l.length) : l.take (k + 1) = l.take k ++ [l[k]] := List.take_succ_eq_append_getElem h

theorem clone_ok (l : TLaw) (hL : LLim l) : Ct Try.prog 18 [.tv rLaw l] (.tv rLaw l) := by
  refine ct_intro Try.func18 rfl rfl Try.ntmps18 rfl rfl ?_
  intro w0 ok0
  obtain ⟨⟨hE1, hE2⟩, ⟨hT1, hT2⟩, hS1, hS2⟩ := hL
  refine j_seq ?_
  refine j_region ?_
  refine jg_os _ rfl (op_box (.tv (.base rfl)) rfl rfl rfl) ?_
  refine jg_os _ rfl (op_alloc _ z26 rfl rfl rfl) ?_
  refine jg_nil ?_
  refine jn_keep [1, 2] [1, 2] (.cons rfl (.cons rfl .nil)) (.cons rfl (.cons rfl .nil)) ?_
  refine jn_seq (j_seq ?_)
  refine j_region ?_
  refine jg_adr _ rfl _ rfl rfl (op_oload ty26 (.base rfl) rfl rfl (Lens.id _)) ?_
  refine jg_os _ rfl (op_alloc _ z26 rfl rfl rfl) ?_
  refine jg_os _ rfl (op_ostore ty26 (.base rfl) rfl rfl (Lens.id _) (.tv (.base rfl))) ?_
  refine jg_nil ?_
  refine jn_keep [1, 2, 3] [1, 2, 3] (.cons rfl (.cons rfl (.cons rfl .nil))) (.cons rfl (.cons rfl (.cons rfl .nil))) ?_
  refine jn_seq (j_seq ?_)
  refine j_openH 3 rLaw2 (openH_pair _ (openH_pair _ openH_hd)) rfl rfl (fun y0 => ?_)
  refine j_region ?_
  refine jg_adr _ rfl _ rfl rfl (op_ofield fld26_2 (.base rfl)) ?_
  refine jg_os _ rfl (op_ostore (rt := rLaw2) tyH24 (.base rfl) rfl rfl ln_rLaw2_2 (.raw (d := (none, 0, 0)) (.base rfl) rfl)) ?_
  refine jg_nil ?_
  refine jn_keep [1, 2, 3] [1, 2, 3] (.cons rfl (.cons rfl (.cons rfl .nil))) (.cons rfl (.cons rfl (.cons rfl .nil))) ?_
  refine jn_seq (j_seq (j_seq ?_))
  refine j_vacL 3 72 rScope rfl rfl rfl ?_
  refine j_region ?_
  refine jg_adr _ rfl _ rfl rfl (op_assign (.base rfl)) ?_
  refine jg_nil ?_
  refine jn_keep [1, 2, 3, 4] [1, 2, 3, 72] (.cons rfl (.cons rfl (.cons rfl (.cons rfl .nil)))) (.cons rfl (.cons rfl (.cons rfl (.cons rfl .nil)))) ?_
  refine jn_seq (j_block ?_)
  refine j_loopp (ι := Nat × Option Addr × Nat) (fun (k, A, cap) => ⟨[(1, .optr 1 rLaw.n 0 0), (2, .optr 2 rLaw.n 0 0), (3, .lnk (.optr 3 rLaw.n 0 0) (.slice A (l.2.2.take k).length cap) (.own 72 rScope.n 0 (l.2.2.take k).length)), (4, .raw (.int .i64 ((k : Nat))))], [(1, ⟨rLaw, [l]⟩), (2, ⟨rLaw, [([], [], [])]⟩), (3, ⟨rLaw2, [(l.1, l.2.1, (A, (l.2.2.take k).length, cap))]⟩), (72, ⟨rScope, (l.2.2.take k)⟩)]⟩) (fun (k, A, cap) => k ≤ l.2.2.length) (fun (k, A, cap) => l.2.2.length - k) (0, none, 0) (Nat.zero_le _) (fun a w hi => (Sub.inv ⟨(by repeat (first | exact SubS_nil | refine SubS_cons rfl (by first | rfl | (simp; done) | assumption) ?_)), (by repeat (first | exact SubH_nil | refine SubH_cons rfl (by first | rfl | (simp; done) | assumption) ?_))⟩ hi)) ?_
  rintro ⟨k, A, cap⟩ hk
  refine j_seq (j_seq ?_)
  refine j_region ?_
  refine jg_adr _ rfl _ rfl rfl (op_move (.base rfl)) ?_
  refine jg_adr _ rfl _ rfl rfl (op_ofield fld26_2 (.base rfl)) ?_
  refine jg_adr _ rfl _ rfl rfl (op_oload ty24 (.base rfl) rfl rfl ln26_2) ?_
  refine jg_adr _ rfl _ rfl rfl (op_len Try.underlying24 (.base rfl)) ?_
  refine jg_adr _ rfl _ rfl rfl (op_lss (.base rfl) (.base rfl)) ?_
  refine jg_nil ?_
  refine jn_keep [1, 2, 3, 4, 14] [1, 2, 3, 72] (.cons rfl (.cons rfl (.cons rfl (.cons rfl (.cons rfl .nil))))) (.cons rfl (.cons rfl (.cons rfl (.cons rfl .nil)))) ?_
  refine jn_seq ?_
  refine j_cond rfl (fun h4 => ?_) (fun h4 => ?_)
  · have h4 : k < l.2.2.length := by simp at h4; omega
    have hs := take_s h4
    have hsl := congrArg List.length hs
    rw [List.length_append] at hsl
    obtain ⟨hSI, hSD, hSm, hSR⟩ := hS2 _ (List.getElem_mem h4)
    refine j_skip (jn_seq (j_seq (j_block (j_seq ?_))))
    refine j_region ?_
    refine jg_adr _ rfl _ rfl rfl (op_ofield fld26_2 (.base rfl)) ?_
    refine jg_adr _ rfl _ rfl rfl (op_oload ty24 (.base rfl) rfl rfl ln26_2) ?_
    refine jg_adr _ rfl _ rfl rfl (op_move (.base rfl)) ?_
    refine jg_adr _ rfl _ rfl rfl (op_index Try.underlying24 ty40 (.base rfl) (.base rfl) rfl (List.getElem?_eq_getElem (by first | omega | (simp; done) | (simp; omega) | (simp at hg; omega)))) ?_
    refine jg_adr _ rfl _ rfl rfl (op_load ty40 (.base rfl)) ?_
    refine jg_os _ rfl (op_alloc _ z40 rfl rfl rfl) ?_
    refine jg_os _ rfl (op_ostore ty40 (.base rfl) rfl rfl (Lens.id _) (.tv (.base rfl))) ?_
    refine jg_nil ?_
    refine jn_keep [1, 2, 3, 4, 5] [1, 2, 3, 5, 72] (.cons rfl (.cons rfl (.cons rfl (.cons rfl (.cons rfl .nil))))) (.cons rfl (.cons rfl (.cons rfl (.cons rfl (.cons rfl .nil))))) ?_
    refine jn_seq (j_seq ?_)
    refine j_region ?_
    refine jg_os _ rfl (op_obslice (rt := rField) (ds := []) Try.underlying37 ty54 z54 rfl .nil rfl rfl rfl rfl rfl) ?_
    refine jg_adr _ rfl _ rfl rfl (op_ofield fld40_2 (.base rfl)) ?_
    refine jg_adr _ rfl _ rfl rfl (op_oload ty37 (.base rfl) rfl rfl ln40_2) ?_
    refine jg_os _ rfl (op_append [1, 2, 3, 4, 5] Try.underlying37 ty54 z54 rfl by54 (.base rfl) rfl (by (try simp); try omega) (.tv (.base rfl)) (by unfold maxLen; (try simp); try omega) (by (try simp); try omega) rfl (.cons rfl (.cons rfl (.cons rfl (.cons rfl (.cons rfl .nil))))) rfl) ?_
    refine jg_adr _ rfl _ rfl rfl (op_ofield fld40_2 (.base rfl)) ?_
    refine jg_seal (rt := rField) 22 25 (dropH 22 _) rfl rfl (by simp) (dropH_sub 22 _) (dropH_no 22 _) ?_
    rw [cat_nil]
    refine jg_os _ rfl (op_ostore ty37 (.base rfl) rfl rfl ln40_2 (.tv (.base rfl))) ?_
    refine jg_nil ?_
    refine jn_keep [1, 2, 3, 4, 5] [1, 2, 3, 5, 72] (.cons rfl (.cons rfl (.cons rfl (.cons rfl (.cons rfl .nil))))) (.cons rfl (.cons rfl (.cons rfl (.cons rfl (.cons rfl .nil))))) ?_
    refine jn_seq (j_seq ?_)
    refine j_openH 5 rScopeH (openH_pair _ (openH_pair _ (openH_pair _ (openH_pair _ openH_hd)))) rfl rfl (fun y1 => ?_)
    refine j_region ?_
    refine jg_adr _ rfl _ rfl rfl (op_ofield fld40_4 (.base rfl)) ?_
    refine jg_os _ rfl (op_ostore (rt := rScopeH) tyH38 (.base rfl) rfl rfl ln_rScopeH_4 (.raw (d := (none, 0, 0)) (.base rfl) rfl)) ?_
    refine jg_nil ?_
    refine jn_keep [1, 2, 3, 4, 5] [1, 2, 3, 5, 72] (.cons rfl (.cons rfl (.cons rfl (.cons rfl (.cons rfl .nil))))) (.cons rfl (.cons rfl (.cons rfl (.cons rfl (.cons rfl .nil))))) ?_
    refine jn_seq (j_seq (j_seq ?_))
    refine j_vacL 5 70 rRule rfl rfl rfl ?_
    refine j_region ?_
    refine jg_adr _ rfl _ rfl rfl (op_assign (.base rfl)) ?_
    refine jg_nil ?_
    refine jn_keep [1, 2, 3, 4, 5, 6] [1, 2, 3, 5, 70, 72] (.cons rfl (.cons rfl (.cons rfl (.cons rfl (.cons rfl (.cons rfl .nil)))))) (.cons rfl (.cons rfl (.cons rfl (.cons rfl (.cons rfl (.cons rfl .nil)))))) ?_
    refine jn_seq (j_block ?_)
    refine j_loopp (ι := Nat × Option Addr × Nat) (fun (j, A1, cap1) => ⟨[(1, .optr 1 rLaw.n 0 0), (2, .optr 2 rLaw.n 0 0), (3, .lnk (.optr 3 rLaw.n 0 0) (.slice A (l.2.2.take k).length cap) (.own 72 rScope.n 0 (l.2.2.take k).length)), (4, .raw (.int .i64 ((k : Nat)))), (5, .lnk (.optr 5 rScope.n 0 0) (.slice A1 ((l.2.2[k]'h4).2.2.2.2.take j).length cap1) (.own 70 rRule.n 0 ((l.2.2[k]'h4).2.2.2.2.take j).length)), (6, .raw (.int .i64 ((j : Nat))))], [(1, ⟨rLaw, [l]⟩), (2, ⟨rLaw, [([], [], [])]⟩), (3, ⟨rLaw2, [(l.1, l.2.1, (A, (l.2.2.take k).length, cap))]⟩), (72, ⟨rScope, (l.2.2.take k)⟩), (5, ⟨rScopeH, [((l.2.2[k]'h4).1, (l.2.2[k]'h4).2.1, (l.2.2[k]'h4).2.2.1, (l.2.2[k]'h4).2.2.2.1, (A1, ((l.2.2[k]'h4).2.2.2.2.take j).length, cap1))]⟩), (70, ⟨rRule, ((l.2.2[k]'h4).2.2.2.2.take j)⟩)]⟩) (fun (j, A1, cap1) => j ≤ (l.2.2[k]'h4).2.2.2.2.length) (fun (j, A1, cap1) => (l.2.2[k]'h4).2.2.2.2.length - j) (0, none, 0) (Nat.zero_le _) (fun a w hi => (Sub.inv ⟨(by repeat (first | exact SubS_nil | refine SubS_cons rfl (by first | rfl | (simp; done) | assumption) ?_)), (by repeat (first | exact SubH_nil | refine SubH_cons rfl (by first | rfl | (simp; done) | assumption) ?_))⟩ hi)) ?_
    rintro ⟨j, A1, cap1⟩ hj
    refine j_seq (j_seq ?_)
    refine j_region ?_
    refine jg_adr _ rfl _ rfl rfl (op_move (.base rfl)) ?_
    refine jg_adr _ rfl _ rfl rfl (op_ofield fld26_2 (.base rfl)) ?_
    refine jg_adr _ rfl _ rfl rfl (op_oload ty24 (.base rfl) rfl rfl ln26_2) ?_
    refine jg_adr _ rfl _ rfl rfl (op_move (.base rfl)) ?_
    refine jg_adr _ rfl _ rfl rfl (op_index Try.underlying24 ty40 (.base rfl) (.base rfl) rfl (List.getElem?_eq_getElem (by first | omega | (simp; done) | (simp; omega) | (simp at hg; omega)))) ?_
    refine jg_adr _ rfl _ rfl rfl (op_field fld40_4 ln40_4 (.base rfl)) ?_
    refine jg_adr _ rfl _ rfl rfl (op_load ty38 (.base rfl)) ?_
    refine jg_adr _ rfl _ rfl rfl (op_len Try.underlying38 (.base rfl)) ?_
    refine jg_adr _ rfl _ rfl rfl (op_lss (.base rfl) (.base rfl)) ?_
    refine jg_nil ?_
    refine jn_keep [1, 2, 3, 4, 5, 6, 36] [1, 2, 3, 5, 70, 72] (.cons rfl (.cons rfl (.cons rfl (.cons rfl (.cons rfl (.cons rfl (.cons rfl .nil))))))) (.cons rfl (.cons rfl (.cons rfl (.cons rfl (.cons rfl (.cons rfl .nil)))))) ?_
    refine jn_seq ?_
    refine j_cond rfl (fun h10 => ?_) (fun h10 => ?_)
    · have h10 : j < (l.2.2[k]'h4).2.2.2.2.length := by simp at h10; omega
      have hs2 := take_s h10
      have hsl2 := congrArg List.length hs2
      rw [List.length_append] at hsl2
      have hgl := hSR _ (List.getElem_mem h10)
      refine j_skip (jn_seq (j_seq (j_block (j_seq ?_))))
      refine j_region ?_
      refine jg_adr _ rfl _ rfl rfl (op_ofield fld26_2 (.base rfl)) ?_
      refine jg_adr _ rfl _ rfl rfl (op_oload ty24 (.base rfl) rfl rfl ln26_2) ?_
      refine jg_adr _ rfl _ rfl rfl (op_move (.base rfl)) ?_
      refine jg_adr _ rfl _ rfl rfl (op_index Try.underlying24 ty40 (.base rfl) (.base rfl) rfl (List.getElem?_eq_getElem (by first | omega | (simp; done) | (simp; omega) | (simp at hg; omega)))) ?_
      refine jg_adr _ rfl _ rfl rfl (op_field fld40_4 ln40_4 (.base rfl)) ?_
      refine jg_adr _ rfl _ rfl rfl (op_load ty38 (.base rfl)) ?_
      refine jg_adr _ rfl _ rfl rfl (op_move (.base rfl)) ?_
      refine jg_adr _ rfl _ rfl rfl (op_index Try.underlying38 ty48 (.base rfl) (.base rfl) rfl (List.getElem?_eq_getElem (by first | omega | (simp; done) | (simp; omega) | (simp at hg; omega)))) ?_
      refine jg_adr _ rfl _ rfl rfl (op_load ty48 (.base rfl)) ?_
      refine jg_os _ rfl (op_alloc _ z48 rfl rfl rfl) ?_
      refine jg_os _ rfl (op_ostore ty48 (.base rfl) rfl rfl (Lens.id _) (.tv (.base rfl))) ?_
      refine jg_nil ?_
      refine jn_keep [1, 2, 3, 4, 5, 6, 7] [1, 2, 3, 5, 7, 70, 72] (.cons rfl (.cons rfl (.cons rfl (.cons rfl (.cons rfl (.cons rfl (.cons rfl .nil))))))) (.cons rfl (.cons rfl (.cons rfl (.cons rfl (.cons rfl (.cons rfl (.cons rfl .nil))))))) ?_
      refine jn_seq (j_seq ?_)
      refine j_region ?_
      refine jg_os _ rfl (op_obslice (rt := rNode) (ds := []) Try.underlying46 ty50 z50 rfl .nil rfl rfl rfl rfl rfl) ?_
      refine jg_adr _ rfl _ rfl rfl (op_ofield fld48_5 (.base rfl)) ?_
      refine jg_adr _ rfl _ rfl rfl (op_oload ty46 (.base rfl) rfl rfl ln48_5) ?_
      refine jg_os _ rfl (op_append [1, 2, 3, 4, 5, 6, 7] Try.underlying46 ty50 z50 rfl by50 (.base rfl) rfl (by (try simp); try omega) (.tv (.base rfl)) (by unfold maxLen; (try simp); try omega) (by (try simp); try omega) rfl (.cons rfl (.cons rfl (.cons rfl (.cons rfl (.cons rfl (.cons rfl (.cons rfl .nil))))))) rfl) ?_
      refine jg_adr _ rfl _ rfl rfl (op_ofield fld48_5 (.base rfl)) ?_
      refine jg_seal (rt := rNode) 48 51 (dropH 48 _) rfl rfl (by simp) (dropH_sub 48 _) (dropH_no 48 _) ?_
      rw [cat_nil]
      refine jg_os _ rfl (op_ostore ty46 (.base rfl) rfl rfl ln48_5 (.tv (.base rfl))) ?_
      refine jg_nil ?_
      refine jn_keep [1, 2, 3, 4, 5, 6, 7] [1, 2, 3, 5, 7, 70, 72] (.cons rfl (.cons rfl (.cons rfl (.cons rfl (.cons rfl (.cons rfl (.cons rfl .nil))))))) (.cons rfl (.cons rfl (.cons rfl (.cons rfl (.cons rfl (.cons rfl (.cons rfl .nil))))))) ?_
      refine jn_seq (j_seq ?_)
      refine j_region ?_
      refine jg_os _ rfl (op_obslice (rt := rNode) (ds := []) Try.underlying46 ty50 z50 rfl .nil rfl rfl rfl rfl rfl) ?_
      refine jg_adr _ rfl _ rfl rfl (op_ofield fld48_6 (.base rfl)) ?_
      refine jg_adr _ rfl _ rfl rfl (op_oload ty46 (.base rfl) rfl rfl ln48_6) ?_
      refine jg_os _ rfl (op_append [1, 2, 3, 4, 5, 6, 7] Try.underlying46 ty50 z50 rfl by50 (.base rfl) rfl (by (try simp); try omega) (.tv (.base rfl)) (by unfold maxLen; (try simp); try omega) (by (try simp); try omega) rfl (.cons rfl (.cons rfl (.cons rfl (.cons rfl (.cons rfl (.cons rfl (.cons rfl .nil))))))) rfl) ?_
      refine jg_adr _ rfl _ rfl rfl (op_ofield fld48_6 (.base rfl)) ?_
      refine jg_seal (rt := rNode) 53 56 (dropH 53 _) rfl rfl (by simp) (dropH_sub 53 _) (dropH_no 53 _) ?_
      rw [cat_nil]
      refine jg_os _ rfl (op_ostore ty46 (.base rfl) rfl rfl ln48_6 (.tv (.base rfl))) ?_
      refine jg_nil ?_
      refine jn_keep [1, 2, 3, 4, 5, 6, 7] [1, 2, 3, 5, 7, 70, 72] (.cons rfl (.cons rfl (.cons rfl (.cons rfl (.cons rfl (.cons rfl (.cons rfl .nil))))))) (.cons rfl (.cons rfl (.cons rfl (.cons rfl (.cons rfl (.cons rfl (.cons rfl .nil))))))) ?_
      refine jn_seq ?_
      refine j_region ?_
      refine jg_adr _ rfl _ rfl rfl (op_ofield fld40_4 (.l1 rfl)) ?_
      refine jg_adr _ rfl _ rfl rfl (op_oload (rt := rScopeH) tyH38 (.base rfl) rfl rfl ln_rScopeH_4) ?_
      refine jg_takeL 5 59 rfl rfl rfl ?_
      refine jg_adr _ rfl _ rfl rfl (op_oload ty48 (.base rfl) rfl rfl (Lens.id _)) ?_
      refine jg_adr _ rfl _ rfl rfl (op_bslice (rt := rRule) Try.underlying38 ty48 z48 rfl (.cons (.tv (.base rfl)) .nil) rfl rfl) ?_
      refine jg_os _ rfl (op_append [1, 2, 3, 4, 5, 6] Try.underlying38 ty48 z48 rfl by48 (.base rfl) rfl (by (try simp); try omega) (.tv (.base rfl)) (by unfold maxLen; (try simp); try omega) (by (try simp); try omega) rfl (.cons rfl (.cons rfl (.cons rfl (.cons rfl (.cons rfl (.cons rfl .nil)))))) rfl) ?_
      refine jg_giveL 5 62 rfl rfl (fun A2 cap2 => ?_)
      refine jg_adr _ rfl _ rfl rfl (op_ofield fld40_4 (.l1 rfl)) ?_
      refine jg_os _ rfl (op_ostore (rt := rScopeH) tyH38 (.base rfl) rfl rfl ln_rScopeH_4 (.raw (d := (A2, _, cap2)) (.base rfl) rfl)) ?_
      refine jg_nil ?_
      refine jn_keep [1, 2, 3, 4, 5, 6] [1, 2, 3, 5, 70, 72] (.cons rfl (.cons rfl (.cons rfl (.cons rfl (.cons rfl (.cons rfl .nil)))))) (.cons rfl (.cons rfl (.cons rfl (.cons rfl (.cons rfl (.cons rfl .nil)))))) ?_
      refine jn_blk (jn_seq ?_)
      refine j_region ?_
      refine jg_adr _ rfl _ rfl rfl (op_move (.base rfl)) ?_
      refine jg_adr _ rfl _ rfl rfl (op_add (.base rfl) (.base rfl) (w64 (by omega))) ?_
      refine jg_adr _ rfl _ rfl rfl (op_assign (.base rfl)) ?_
      refine jg_nil ?_
      refine jn_keep [1, 2, 3, 4, 5, 6] [1, 2, 3, 5, 70, 72] (.cons rfl (.cons rfl (.cons rfl (.cons rfl (.cons rfl (.cons rfl .nil)))))) (.cons rfl (.cons rfl (.cons rfl (.cons rfl (.cons rfl (.cons rfl .nil)))))) ?_
      exact jn_loop (fun a w hi => ⟨(j + 1, A2, cap2), (by show _ - (j + 1) < _ - j; omega), (by show j + 1 ≤ _; omega), Sub.inv ⟨(by repeat (first | exact SubS_nil | refine SubS_cons rfl (by first | rfl | (rw [hsl2]; rfl) | (rw [hsl2]; done)) ?_)), (by repeat (first | exact SubH_nil | refine SubH_cons rfl (by first | rfl | (refine congrArg (HB.mk rRule) ?_; first | rfl | (rw [hs2]; (try simp only [List.drop_zero, List.take_length]); first | done | rfl | (simp; done); done)) | (rw [hsl2]; rfl) | (rw [hsl2]; done)) ?_))⟩ hi⟩)
    · have h10 : (l.2.2[k]'h4).2.2.2.2.length ≤ j := by simp at h10; omega
      refine j_exit (je_seq (je_loop (je_blk (jn_seq ?_))))
      refine j_sealL (rt := rRule) 70 5 (dropH 70 _) rfl rfl (by simp) (dropH_sub 70 _) (dropH_no 70 _) ?_
      rw [List.drop_zero, List.take_length, List.take_of_length_le h10]
      refine j_castL 5 5 rScope (l.2.2[k]'h4) (casts_pair _ (casts_pair _ (casts_pair _ (casts_pair _ casts_hd)))) rfl rfl rfl ?_
      refine j_region ?_
      refine jg_adr _ rfl _ rfl rfl (op_ofield fld26_2 (.l1 rfl)) ?_
      refine jg_adr _ rfl _ rfl rfl (op_oload (rt := rLaw2) tyH24 (.base rfl) rfl rfl ln_rLaw2_2) ?_
      refine jg_takeL 3 65 rfl rfl rfl ?_
      refine jg_adr _ rfl _ rfl rfl (op_oload ty40 (.base rfl) rfl rfl (Lens.id _)) ?_
      refine jg_adr _ rfl _ rfl rfl (op_bslice (rt := rScope) Try.underlying24 ty40 z40 rfl (.cons (.tv (.base rfl)) .nil) rfl rfl) ?_
      refine jg_os _ rfl (op_append [1, 2, 3, 4] Try.underlying24 ty40 z40 rfl by40 (.base rfl) rfl (by (try simp); try omega) (.tv (.base rfl)) (by unfold maxLen; (try simp); try omega) (by (try simp); try omega) rfl (.cons rfl (.cons rfl (.cons rfl (.cons rfl .nil)))) rfl) ?_
      refine jg_giveL 3 68 rfl rfl (fun A3 cap3 => ?_)
      refine jg_adr _ rfl _ rfl rfl (op_ofield fld26_2 (.l1 rfl)) ?_
      refine jg_os _ rfl (op_ostore (rt := rLaw2) tyH24 (.base rfl) rfl rfl ln_rLaw2_2 (.raw (d := (A3, _, cap3)) (.base rfl) rfl)) ?_
      refine jg_nil ?_
      refine jn_keep [1, 2, 3, 4] [1, 2, 3, 72] (.cons rfl (.cons rfl (.cons rfl (.cons rfl .nil)))) (.cons rfl (.cons rfl (.cons rfl (.cons rfl .nil)))) ?_
      refine jn_blk (jn_seq ?_)
      refine j_region ?_
      refine jg_adr _ rfl _ rfl rfl (op_move (.base rfl)) ?_
      refine jg_adr _ rfl _ rfl rfl (op_add (.base rfl) (.base rfl) (w64 (by omega))) ?_
      refine jg_adr _ rfl _ rfl rfl (op_assign (.base rfl)) ?_
      refine jg_nil ?_
      refine jn_keep [1, 2, 3, 4] [1, 2, 3, 72] (.cons rfl (.cons rfl (.cons rfl (.cons rfl .nil)))) (.cons rfl (.cons rfl (.cons rfl (.cons rfl .nil)))) ?_
      exact jn_loop (fun a w hi => ⟨(k + 1, A3, cap3), (by show _ - (k + 1) < _ - k; omega), (by show k + 1 ≤ _; omega), Sub.inv ⟨(by repeat (first | exact SubS_nil | refine SubS_cons rfl (by first | rfl | (rw [hsl]; rfl) | (rw [hsl]; done)) ?_)), (by repeat (first | exact SubH_nil | refine SubH_cons rfl (by first | rfl | (refine congrArg (HB.mk rScope) ?_; first | rfl | (rw [hs]; (try simp only [List.drop_zero, List.take_length]); first | done | rfl | (simp; done); done)) | (rw [hsl]; rfl) | (rw [hsl]; done)) ?_))⟩ hi⟩)
  · have h4 : l.2.2.length ≤ k := by simp at h4; omega
    refine j_exit (je_seq (je_loop (je_blk (jn_seq (j_seq ?_)))))
    refine j_sealL (rt := rScope) 72 3 (dropH 72 _) rfl rfl (by simp) (dropH_sub 72 _) (dropH_no 72 _) ?_
    rw [List.drop_zero, List.take_length, List.take_of_length_le h4]
    refine j_castL 3 3 rLaw l (casts_pair _ (casts_pair _ casts_hd)) rfl rfl rfl ?_
    refine j_region ?_
    refine jg_adr _ rfl _ rfl rfl (op_oload ty26 (.base rfl) rfl rfl (Lens.id _)) ?_
    refine jg_os _ rfl (op_ostore ty26 (.base rfl) rfl rfl (Lens.id _) (.tv (.base rfl))) ?_
    refine jg_nil ?_
    refine jn_keep [2] [2] (.cons rfl .nil) (.cons rfl .nil) ?_
    refine jn_seq (j_ret ?_)
    exact jr_fin1 Try.results18 (res_cell ty26 rfl rfl rfl (Lens.id rLaw)) rfl rfl

end Go.Proofs.Ythfhekohlmboiaa
