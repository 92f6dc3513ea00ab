import Derived.Test.YthfhekohlmboiaaP15b
namespace Go.Proofs.Ythfhekohlmboiaa
open Go.Eng
set_option maxRecDepth 100000
set_option maxHeartbeats 4000000
set_option linter.unusedVariables false
set_option linter.unusedSimpArgs false

theorem rindex_ok (l : List Int) (x : Int) : Ct Try.prog 60 [.tv (rSlice (rInt .i64)) l, .raw (.int .i64 x)] (.raw (.int .i64 (indF x l 0))) := by
  refine ct_intro Try.func60 rfl rfl Try.ntmps60 rfl rfl ?_
  intro w0 ok0
  refine j_len 0 rfl (fun hl0 => ?_)
  refine j_seq ?_
  refine j_region ?_
  refine jg_adr _ rfl _ rfl rfl (op_assign (.base rfl)) ?_
  refine jg_nil ?_
  refine jn_keep [0, 1] [] (.cons rfl (.cons rfl .nil)) .nil ?_
  refine jn_seq (j_seq (j_seq ?_))
  refine j_region ?_
  refine jg_adr _ rfl _ rfl rfl (op_assign (.base rfl)) ?_
  refine jg_nil ?_
  refine jn_keep [0, 1, 5] [] (.cons rfl (.cons rfl (.cons rfl .nil))) .nil ?_
  refine jn_seq (j_block ?_)
  refine j_loopp (ι := Nat) (fun k => ⟨[(0, .tv (rSlice (rInt .i64)) l), (1, .raw (.int .i64 (x))), (5, .raw (.int .i64 ((k : Nat))))], []⟩) (fun k => k ≤ l.length ∧ indF x (l.drop k) k = indF x l 0) (fun k => l.length - k) 0 (⟨Nat.zero_le _, rfl⟩) (fun a w hi => (Sub.inv ⟨(by repeat (first | exact SubS_nil | refine SubS_cons rfl (by first | rfl | (simp; done) | assumption) ?_)), (by repeat (first | exact SubH_nil | refine SubH_cons rfl (by first | rfl | (simp; done) | assumption) ?_))⟩ hi)) ?_
  rintro k ⟨p1, p2⟩
  refine j_seq (j_seq ?_)
  refine j_region ?_
  refine jg_adr _ rfl _ rfl rfl (op_move (.base rfl)) ?_
  refine jg_adr _ rfl _ rfl rfl (op_move (.base rfl)) ?_
  refine jg_adr _ rfl _ rfl rfl (op_len Try.underlying32 (.base rfl)) ?_
  refine jg_adr _ rfl _ rfl rfl (op_lss (.base rfl) (.base rfl)) ?_
  refine jg_nil ?_
  refine jn_keep [0, 1, 5, 9] [] (.cons rfl (.cons rfl (.cons rfl (.cons rfl .nil)))) .nil ?_
  refine jn_seq ?_
  refine j_cond rfl (fun h2 => ?_) (fun h2 => ?_)
  · simp at h2
    have hd := List.drop_eq_getElem_cons h2
    refine j_skip (jn_seq (j_seq (j_block (j_seq ?_))))
    refine j_region ?_
    refine jg_adr _ rfl _ rfl rfl (op_move (.base rfl)) ?_
    refine jg_adr _ rfl _ rfl rfl (op_move (.base rfl)) ?_
    refine jg_adr _ rfl _ rfl rfl (op_index Try.underlying32 ty3 (.base rfl) (.base rfl) rfl (List.getElem?_eq_getElem (by first | omega | (simp; done) | (simp; omega) | (simp at hg; omega)))) ?_
    refine jg_adr _ rfl _ rfl rfl (op_load ty3 (.base rfl)) ?_
    refine jg_adr _ rfl _ rfl rfl (op_move (.base rfl)) ?_
    refine jg_adr _ rfl _ rfl rfl (op_eql (.base rfl) (.base rfl)) ?_
    refine jg_nil ?_
    refine jn_keep [0, 1, 5, 17] [] (.cons rfl (.cons rfl (.cons rfl (.cons rfl .nil)))) .nil ?_
    refine jn_seq ?_
    refine j_cond rfl (fun h4 => ?_) (fun h4 => ?_)
    · have h4 : l[k] = x := by simpa using h4
      refine j_seq ?_
      refine j_region ?_
      refine jg_adr _ rfl _ rfl rfl (op_move (.base rfl)) ?_
      refine jg_adr _ rfl _ rfl rfl (op_assign (.base rfl)) ?_
      refine jg_nil ?_
      refine jn_keep [4] [] (.cons rfl .nil) .nil ?_
      refine jn_seq (j_ret (jr_blk (jr_seq (jr_loop (jr_blk (jr_seq ?_))))))
      exact jr_fin1 Try.results60 (res_tmp rfl) rfl (congrArg (fun z => SV.raw (Value.int .i64 z)) (by rw [← p2, hd, indF, if_pos h4]))
    · have h4 : ¬ l[k] = x := by simpa using h4
      refine j_skip (jn_blk (jn_seq ?_))
      refine j_region ?_
      refine jg_adr _ rfl _ rfl rfl (op_move (.base rfl)) ?_
      refine jg_adr _ rfl _ rfl rfl (op_add (.base rfl) (.base rfl) (w64 (by omega))) ?_
      refine jg_adr _ rfl _ rfl rfl (op_assign (.base rfl)) ?_
      refine jg_nil ?_
      refine jn_keep [0, 1, 5] [] (.cons rfl (.cons rfl (.cons rfl .nil))) .nil ?_
      exact jn_loop (fun a w hi => ⟨k + 1, (by first | omega | (simp; omega)), (⟨by omega, by rw [← p2, hd, indF, if_neg h4]⟩), (Sub.inv ⟨(by repeat (first | exact SubS_nil | refine SubS_cons rfl (by first | rfl | (simp; done) | assumption) ?_)), (by repeat (first | exact SubH_nil | refine SubH_cons rfl (by first | rfl | (simp; done) | assumption) ?_))⟩ hi)⟩)
  · simp at h2
    refine j_exit (je_seq (je_loop (je_blk (jn_seq (j_seq ?_)))))
    refine j_region ?_
    refine jg_adr _ rfl _ rfl rfl (op_assign (.base rfl)) ?_
    refine jg_nil ?_
    refine jn_keep [4] [] (.cons rfl .nil) .nil ?_
    refine jn_seq (j_ret ?_)
    exact jr_fin1 Try.results60 (res_tmp rfl) rfl (congrArg (fun z => SV.raw (Value.int .i64 z)) (by rw [← p2, List.drop_of_length_le (by omega)]; rfl))

theorem rparent_ok (s : TScope) (f : TRule → Bool) (N i : Nat) (hi : i < s.2.2.2.2.length) (hN : i ≤ N) : Ct Try.prog 42 [.tv rScope s, .tv (rSlice (rInt .i64)) (idxI f s.2.2.2.2 N), .raw (.int .i64 (i : Nat))] (.raw (.int .i64 (anc f s.2.2.2.2 i))) := by
  refine ct_intro Try.func42 rfl rfl Try.ntmps42 rfl rfl ?_
  intro w0 ok0
  refine j_seq ?_
  refine j_region ?_
  refine jg_os _ rfl (op_box (.tv (.base rfl)) rfl rfl rfl) ?_
  refine jg_adr _ rfl _ rfl rfl (op_assign (.base rfl)) ?_
  refine jg_nil ?_
  refine jn_keep [1, 2, 3] [3] (.cons rfl (.cons rfl (.cons rfl .nil))) (.cons rfl .nil) ?_
  refine jn_seq (j_seq ?_)
  refine j_region ?_
  refine jg_adr _ rfl _ rfl rfl (op_ofield fld40_4 (.base rfl)) ?_
  refine jg_adr _ rfl _ rfl rfl (op_oload ty38 (.base rfl) rfl rfl ln40_4) ?_
  refine jg_adr _ rfl _ rfl rfl (op_move (.base rfl)) ?_
  refine jg_adr _ rfl _ rfl rfl (op_index Try.underlying38 ty48 (.base rfl) (.base rfl) rfl (List.getElem?_eq_getElem (by first | omega | (simp; done) | (simp; omega) | (simp at hg; omega)))) ?_
  refine jg_adr _ rfl _ rfl rfl (op_field fld48_2 ln48_2 (.base rfl)) ?_
  refine jg_adr _ rfl _ rfl rfl (op_load ty3 (.base rfl)) ?_
  refine jg_adr _ rfl _ rfl rfl (op_assign (.base rfl)) ?_
  refine jg_nil ?_
  refine jn_keep [1, 2, 3, 7] [3] (.cons rfl (.cons rfl (.cons rfl (.cons rfl .nil)))) (.cons rfl .nil) ?_
  refine jn_seq (j_seq (j_block ?_))
  have hp0 := parAt_get (l := s.2.2.2.2) hi
  refine j_loopp (ι := Nat) (fun j => ⟨[(1, .tv (rSlice (rInt .i64)) (idxI f s.2.2.2.2 N)), (2, .raw (.int .i64 ((j : Nat)))), (3, .optr 3 rScope.n 0 0), (7, .raw (.int .i64 (parAt s.2.2.2.2 j)))], [(3, ⟨rScope, [s]⟩)]⟩) (fun j => j < s.2.2.2.2.length ∧ j ≤ N ∧ anc f s.2.2.2.2 i = anc f s.2.2.2.2 j) (fun j => j) i (⟨hi, hN, rfl⟩) (fun a w hi => (Sub.inv ⟨(by repeat (first | exact SubS_nil | refine SubS_cons rfl (by first | rfl | (rw [hp0]; rfl)) ?_)), (by repeat (first | exact SubH_nil | refine SubH_cons rfl (by first | rfl | (simp; done) | assumption) ?_))⟩ hi)) ?_
  rintro j ⟨p1, p2, p3⟩
  refine j_seq (j_seq ?_)
  skip
  refine j_region ?_
  refine jg_adr _ rfl _ rfl rfl (op_move (.base rfl)) ?_
  refine jg_adr _ rfl _ rfl rfl (op_geq (.base rfl) (.base rfl)) ?_
  refine jg_adr _ rfl _ rfl rfl (op_move (.base rfl)) ?_
  refine jg_gd _ _ _ _ _ _ rfl rfl rfl rfl rfl (fun hg => op_move (.base rfl)) ?_
  refine jg_gd _ _ _ _ _ _ rfl rfl rfl rfl rfl (fun hg => op_move (.base rfl)) ?_
  refine jg_gd _ _ _ _ _ _ rfl rfl rfl rfl rfl (fun hg => op_lss (.gd rfl hg) (.gd rfl hg)) ?_
  refine jg_adr _ rfl _ rfl rfl (op_pick_and (.base rfl) (.base rfl) rfl (by intro h; first | (rw [h]; rfl) | (rw [hg, h]; rfl) | (rw [h, hg]; rfl) | simp_all)) ?_
  refine jg_nil ?_
  refine jn_keep [1, 3, 7, 21] [3] (.cons rfl (.cons rfl (.cons rfl (.cons rfl .nil)))) (.cons rfl .nil) ?_
  refine jn_seq ?_
  refine j_cond rfl (fun h2 => ?_) (fun h2 => ?_)
  · have h2 : 0 ≤ parAt s.2.2.2.2 j ∧ parAt s.2.2.2.2 j < (j : Int) := by simpa using h2
    refine j_skip (jn_seq (j_block (j_seq ?_)))
    refine j_region ?_
    refine jg_adr _ rfl _ rfl rfl (op_move (.base rfl)) ?_
    refine jg_adr _ rfl _ rfl rfl (op_move (.base rfl)) ?_
    refine jg_adr _ rfl _ rfl rfl (op_call (rindex_ok _ _) (.cons (.base rfl) (.cons (.base rfl) .nil)) rfl rfl) ?_
    refine jg_adr _ rfl _ rfl rfl (op_assign (.base rfl)) ?_
    refine jg_nil ?_
    refine jn_keep [1, 3, 7, 8] [3] (.cons rfl (.cons rfl (.cons rfl (.cons rfl .nil)))) (.cons rfl .nil) ?_
    refine jn_seq (j_seq (j_seq ?_))
    refine j_region ?_
    refine jg_adr _ rfl _ rfl rfl (op_move (.base rfl)) ?_
    refine jg_adr _ rfl _ rfl rfl (op_geq (.base rfl) (.base rfl)) ?_
    refine jg_nil ?_
    refine jn_keep [1, 3, 7, 8, 26] [3] (.cons rfl (.cons rfl (.cons rfl (.cons rfl (.cons rfl .nil))))) (.cons rfl .nil) ?_
    refine jn_seq ?_
    refine j_cond rfl (fun h4 => ?_) (fun h4 => ?_)
    · have h4 : 0 ≤ indF (parAt s.2.2.2.2 j) (idxI f s.2.2.2.2 N) 0 := by simpa using h4
      have hst := step_t h2 p2 h4
      refine j_seq ?_
      refine j_region ?_
      refine jg_adr _ rfl _ rfl rfl (op_move (.base rfl)) ?_
      refine jg_adr _ rfl _ rfl rfl (op_assign (.base rfl)) ?_
      refine jg_nil ?_
      refine jn_keep [6] [] (.cons rfl .nil) .nil ?_
      refine jn_seq (j_ret (jr_seq (jr_blk (jr_loop (jr_blk (jr_seq ?_))))))
      exact jr_fin1 Try.results42 (res_tmp rfl) rfl (congrArg (fun z => SV.raw (Value.int .i64 z)) (by rw [p3, hst]))
    · have h4 : ¬ 0 ≤ indF (parAt s.2.2.2.2 j) (idxI f s.2.2.2.2 N) 0 := by simpa using h4
      have hst := step_f h2 p2 h4
      have hq1 : (parAt s.2.2.2.2 j).toNat < s.2.2.2.2.length := by omega
      have hq2 := parAt_get (l := s.2.2.2.2) hq1
      refine j_skip (jn_seq (j_seq ?_))
      refine j_region ?_
      refine jg_adr _ rfl _ rfl rfl (op_move (.base rfl)) ?_
      refine jg_adr _ rfl _ rfl rfl (op_assign (.base rfl)) ?_
      refine jg_nil ?_
      refine jn_keep [1, 2, 3] [3] (.cons rfl (.cons rfl (.cons rfl .nil))) (.cons rfl .nil) ?_
      refine jn_seq ?_
      refine j_region ?_
      refine jg_adr _ rfl _ rfl rfl (op_ofield fld40_4 (.base rfl)) ?_
      refine jg_adr _ rfl _ rfl rfl (op_oload ty38 (.base rfl) rfl rfl ln40_4) ?_
      refine jg_adr _ rfl _ rfl rfl (op_move (.base rfl)) ?_
      refine jg_adr _ rfl _ rfl rfl (op_index Try.underlying38 ty48 (.base rfl) (.base rfl) (Int.toNat_of_nonneg h2.1).symm (List.getElem?_eq_getElem (by first | omega | (simp; done) | (simp; omega) | (simp at hg; omega)))) ?_
      refine jg_adr _ rfl _ rfl rfl (op_field fld48_2 ln48_2 (.base rfl)) ?_
      refine jg_adr _ rfl _ rfl rfl (op_load ty3 (.base rfl)) ?_
      refine jg_adr _ rfl _ rfl rfl (op_assign (.base rfl)) ?_
      refine jg_nil ?_
      refine jn_keep [1, 2, 3, 7] [3] (.cons rfl (.cons rfl (.cons rfl (.cons rfl .nil)))) (.cons rfl .nil) ?_
      refine jn_blk ?_
      exact jn_loop (fun a w hi => ⟨(parAt s.2.2.2.2 j).toNat, (by omega), ⟨hq1, (by omega), by rw [p3, hst]⟩, Sub.inv ⟨(by repeat (first | exact SubS_nil | refine SubS_cons rfl (by first | rfl | (rw [hq2]; rfl) | (rw [Int.toNat_of_nonneg h2.1])) ?_)), (by repeat (first | exact SubH_nil | refine SubH_cons rfl (by first | rfl | (simp; done) | assumption) ?_))⟩ hi⟩)
  · have h2 : ¬ (0 ≤ parAt s.2.2.2.2 j ∧ parAt s.2.2.2.2 j < (j : Int)) := by intro q; simp [q.1] at h2; omega
    refine j_exit (je_seq (je_loop (je_blk (jn_seq (j_seq ?_)))))
    refine j_region ?_
    refine jg_adr _ rfl _ rfl rfl (op_assign (.base rfl)) ?_
    refine jg_nil ?_
    refine jn_keep [6] [] (.cons rfl .nil) .nil ?_
    refine jn_seq (j_ret ?_)
    exact jr_fin1 Try.results42 (res_tmp rfl) rfl (congrArg (fun z => SV.raw (Value.int .i64 z)) (by rw [p3, anc_f h2]))


theorem rparent_at {s : TScope} {f : TRule → Bool} {N k : Nat} (hN : N ≤ s.2.2.2.2.length) (h : k < (idxs f s.2.2.2.2 N).length) {h' : k < (idxI f s.2.2.2.2 N).length} :
    Ct Try.prog 42 [.tv rScope s, .tv (rSlice (rInt .i64)) (idxI f s.2.2.2.2 N), .raw (.int .i64 ((idxI f s.2.2.2.2 N)[k]' h'))] (.raw (.int .i64 (anc f s.2.2.2.2 ((idxs f s.2.2.2.2 N)[k]'h)))) := by
  rw [idxI_at h]
  exact rparent_ok s f N _ (idxs_get_lt h) (by have := (idxs_mem.1 (List.getElem_mem h)).1; omega)
def parK (f : TRule → Bool) (l : List TRule) (n k : Nat) : List Int := ((idxs f l n).take k).map (anc f l)
theorem parK_succ {f : TRule → Bool} {l : List TRule} {n k : Nat} (h : k < (idxs f l n).length) : parK f l n (k + 1) = parK f l n k ++ [anc f l (idxs f l n)[k]] := by
  unfold parK; rw [List.take_succ_eq_append_getElem h, List.map_append]; rfl
theorem parK_len {f : TRule → Bool} {l : List TRule} {n k : Nat} : (parK f l n k).length ≤ k := by unfold parK; simp; omega
theorem parK_n (f : TRule → Bool) (l : List TRule) (n : Nat) : parK f l n (idxs f l n).length = parI f l n := by unfold parK parI; rw [List.take_length]

theorem rrulesOn_ok (s : TScope) (d date : Int) (hlm : s.2.2.2.2.length ≤ 100000) : Ct Try.prog 41 [.tv rScope s, .raw (.int .i64 d), .raw (.int .i64 date)] (.tv (rSlice (rInt .i64)) (idxI (fD d date) s.2.2.2.2 s.2.2.2.2.length)) := by
  refine ct_intro Try.func41 rfl rfl Try.ntmps41 rfl rfl ?_
  intro w0 ok0
  refine j_seq ?_
  refine j_region ?_
  refine jg_os _ rfl (op_box (.tv (.base rfl)) rfl rfl rfl) ?_
  refine jg_adr _ rfl _ rfl rfl (op_assign (.base rfl)) ?_
  refine jg_nil ?_
  refine jn_keep [1, 2, 3] [3] (.cons rfl (.cons rfl (.cons rfl .nil))) (.cons rfl .nil) ?_
  refine jn_seq (j_seq ?_)
  refine j_region ?_
  refine jg_adr _ rfl _ rfl rfl (op_assign (.base rfl)) ?_
  refine jg_nil ?_
  refine jn_keep [1, 2, 3, 7] [3] (.cons rfl (.cons rfl (.cons rfl (.cons rfl .nil)))) (.cons rfl .nil) ?_
  refine jn_seq (j_seq (j_seq ?_))
  refine j_region ?_
  refine jg_adr _ rfl _ rfl rfl (op_assign (.base rfl)) ?_
  refine jg_nil ?_
  refine jn_keep [1, 2, 3, 7, 8] [3] (.cons rfl (.cons rfl (.cons rfl (.cons rfl (.cons rfl .nil))))) (.cons rfl .nil) ?_
  refine jn_seq (j_block ?_)
  refine j_vac 70 7 (rInt .i64) rfl rfl rfl ?_
  refine j_loopp (ι := Nat) (fun k => ⟨[(1, .raw (.int .i64 (d))), (2, .raw (.int .i64 (date))), (3, .optr 3 rScope.n 0 0), (7, .own 70 (rInt .i64).n 0 (idxI (fD d date) s.2.2.2.2 k).length), (8, .raw (.int .i64 ((k : Nat))))], [(3, ⟨rScope, [s]⟩), (70, ⟨rInt .i64, idxI (fD d date) s.2.2.2.2 k⟩)]⟩) (fun k => k ≤ s.2.2.2.2.length) (fun k => s.2.2.2.2.length - k) 0 (Nat.zero_le _) (fun a w hi => (Sub.inv ⟨(by repeat (first | exact SubS_nil | refine SubS_cons rfl (by first | rfl | (simp; done) | assumption) ?_)), (by repeat (first | exact SubH_nil | refine SubH_cons rfl (by first | rfl | (simp; done) | assumption) ?_))⟩ hi)) ?_
  rintro k hk
  have q1 := idxI_len (fD d date) s.2.2.2.2 k
  have q2 := idxs_len (fD d date) s.2.2.2.2 k
  refine j_seq (j_seq ?_)
  refine j_region ?_
  refine jg_adr _ rfl _ rfl rfl (op_move (.base rfl)) ?_
  refine jg_adr _ rfl _ rfl rfl (op_ofield fld40_4 (.base rfl)) ?_
  refine jg_adr _ rfl _ rfl rfl (op_oload ty38 (.base rfl) rfl rfl ln40_4) ?_
  refine jg_adr _ rfl _ rfl rfl (op_len Try.underlying38 (.base rfl)) ?_
  refine jg_adr _ rfl _ rfl rfl (op_lss (.base rfl) (.base rfl)) ?_
  refine jg_nil ?_
  refine jn_keep [1, 2, 3, 7, 8, 13] [3, 70] (.cons rfl (.cons rfl (.cons rfl (.cons rfl (.cons rfl (.cons rfl .nil)))))) (.cons rfl (.cons rfl .nil)) ?_
  refine jn_seq ?_
  refine j_cond rfl (fun h3 => ?_) (fun h3 => ?_)
  · simp at h3
    have hka := keepAt_get (f := (fD d date)) h3
    refine j_skip (jn_seq (j_seq (j_block (j_seq ?_))))
    refine j_region ?_
    refine jg_adr _ rfl _ rfl rfl (op_ofield fld40_4 (.base rfl)) ?_
    refine jg_adr _ rfl _ rfl rfl (op_oload ty38 (.base rfl) rfl rfl ln40_4) ?_
    refine jg_adr _ rfl _ rfl rfl (op_move (.base rfl)) ?_
    refine jg_adr _ rfl _ rfl rfl (op_index Try.underlying38 ty48 (.base rfl) (.base rfl) rfl (List.getElem?_eq_getElem (by first | omega | (simp; done) | (simp; omega) | (simp at hg; omega)))) ?_
    refine jg_adr _ rfl _ rfl rfl (op_field fld48_1 ln48_1 (.base rfl)) ?_
    refine jg_adr _ rfl _ rfl rfl (op_load ty3 (.base rfl)) ?_
    refine jg_adr _ rfl _ rfl rfl (op_move (.base rfl)) ?_
    refine jg_adr _ rfl _ rfl rfl (op_eql (.base rfl) (.base rfl)) ?_
    refine jg_adr _ rfl _ rfl rfl (op_move (.base rfl)) ?_
    refine jg_gd _ _ _ _ _ _ rfl rfl rfl rfl rfl (fun hg => op_ofield fld40_4 (.base rfl)) ?_
    refine jg_gd _ _ _ _ _ _ rfl rfl rfl rfl rfl (fun hg => op_oload ty38 (.gd rfl hg) rfl rfl ln40_4) ?_
    refine jg_gd _ _ _ _ _ _ rfl rfl rfl rfl rfl (fun hg => op_move (.base rfl)) ?_
    refine jg_gd _ _ _ _ _ _ rfl rfl rfl rfl rfl (fun hg => op_index Try.underlying38 ty48 (.gd rfl hg) (.gd rfl hg) rfl (getD_some (z := (([], (0, (0, (0, ((0, 0), ([], ([], []))))))) : TRule)) (by first | omega | (simp; done) | (simp; omega) | (simp at hg; omega) | (simp at hg; simp; omega)))) ?_
    refine jg_gd _ _ _ _ _ _ rfl rfl rfl rfl rfl (fun hg => op_field fld48_4 ln48_4 (.gd rfl hg)) ?_
    refine jg_gd _ _ _ _ _ _ rfl rfl rfl rfl rfl (fun hg => op_load ty45 (.gd rfl hg)) ?_
    refine jg_gd _ _ _ _ _ _ rfl rfl rfl rfl rfl (fun hg => op_move (.base rfl)) ?_
    refine jg_gd _ _ _ _ _ _ rfl rfl rfl rfl rfl (fun hg => op_call (drcont_ok _ _) (.cons (.gd rfl hg) (.cons (.gd rfl hg) .nil)) rfl rfl) ?_
    refine jg_adr _ rfl _ rfl rfl (op_pick_and (.base rfl) (.base rfl) rfl (by intro h; first | (rw [h]; rfl) | (rw [hg, h]; rfl) | (rw [h, hg]; rfl) | simp_all)) ?_
    refine jg_nil ?_
    refine jn_keep [1, 2, 3, 7, 8, 33] [3, 70] (.cons rfl (.cons rfl (.cons rfl (.cons rfl (.cons rfl (.cons rfl .nil)))))) (.cons rfl (.cons rfl .nil)) ?_
    refine jn_seq ?_
    refine j_cond rfl (fun h5 => ?_) (fun h5 => ?_)
    · have h5 : keepAt (fD d date) s.2.2.2.2 k = true := by rw [hka]; simp [fD, List.getElem?_eq_getElem h3] at h5 ⊢; exact h5
      have hs := idxI_t h5
      refine j_region ?_
      refine jg_adr _ rfl _ rfl rfl (op_move (.base rfl)) ?_
      refine jg_adr _ rfl _ rfl rfl (op_move (.base rfl)) ?_
      refine jg_adr _ rfl _ rfl rfl (op_bslice (rt := (rInt .i64)) Try.underlying32 ty3 z3 rfl (.cons (.raw (.base rfl) rfl) .nil) rfl rfl) ?_
      refine jg_os _ rfl (op_append [1, 2, 3, 8] Try.underlying32 ty3 z3 rfl by3 (.base rfl) rfl (by (try simp); try omega) (.tv (.base rfl)) (by unfold maxLen; (try simp); try omega) (by (try simp); try omega) rfl (.cons rfl (.cons rfl (.cons rfl (.cons rfl .nil)))) rfl) ?_
      refine jg_adr _ rfl _ rfl rfl (op_assign (.base rfl)) ?_
      refine jg_nil ?_
      refine jn_keep [1, 2, 3, 7, 8] [3, 70] (.cons rfl (.cons rfl (.cons rfl (.cons rfl (.cons rfl .nil))))) (.cons rfl (.cons rfl .nil)) ?_
      refine jn_blk (jn_seq ?_)
      refine j_region ?_
      refine jg_adr _ rfl _ rfl rfl (op_move (.base rfl)) ?_
      refine jg_adr _ rfl _ rfl rfl (op_add (.base rfl) (.base rfl) (w64 (by omega))) ?_
      refine jg_adr _ rfl _ rfl rfl (op_assign (.base rfl)) ?_
      refine jg_nil ?_
      refine jn_keep [1, 2, 3, 7, 8] [3, 70] (.cons rfl (.cons rfl (.cons rfl (.cons rfl (.cons rfl .nil))))) (.cons rfl (.cons rfl .nil)) ?_
      exact jn_loop (fun a w hi => ⟨k + 1, (by omega), (by omega), Sub.inv ⟨(by repeat (first | exact SubS_nil | refine SubS_cons rfl (by first | rfl | (refine congrArg (SV.own 70 (rInt .i64).n 0) ?_; first | (rw [hs]; simp; done) | (rw [hs]; done))) ?_)), (by repeat (first | exact SubH_nil | refine SubH_cons rfl (by first | rfl | (refine congrArg (HB.mk (rInt .i64)) ?_; first | rfl | (rw [hs]; (try simp only [List.drop_zero, List.take_of_length_le (Nat.le_refl _)]); first | done | rfl | (simp; done); done) | (rw [hs]; done))) ?_))⟩ hi⟩)
    · have h5 : ¬ keepAt (fD d date) s.2.2.2.2 k = true := by rw [hka]; simp [fD, List.getElem?_eq_getElem h3] at h5 ⊢; exact h5
      have hs := idxI_f h5
      refine j_skip (jn_blk (jn_seq ?_))
      refine j_region ?_
      refine jg_adr _ rfl _ rfl rfl (op_move (.base rfl)) ?_
      refine jg_adr _ rfl _ rfl rfl (op_add (.base rfl) (.base rfl) (w64 (by omega))) ?_
      refine jg_adr _ rfl _ rfl rfl (op_assign (.base rfl)) ?_
      refine jg_nil ?_
      refine jn_keep [1, 2, 3, 7, 8] [3, 70] (.cons rfl (.cons rfl (.cons rfl (.cons rfl (.cons rfl .nil))))) (.cons rfl (.cons rfl .nil)) ?_
      exact jn_loop (fun a w hi => ⟨k + 1, (by omega), (by omega), Sub.inv ⟨(by repeat (first | exact SubS_nil | refine SubS_cons rfl (by first | rfl | (refine congrArg (SV.own 70 (rInt .i64).n 0) ?_; first | (rw [hs]; simp; done) | (rw [hs]; done))) ?_)), (by repeat (first | exact SubH_nil | refine SubH_cons rfl (by first | rfl | (refine congrArg (HB.mk (rInt .i64)) ?_; first | rfl | (rw [hs]; (try simp only [List.drop_zero, List.take_of_length_le (Nat.le_refl _)]); first | done | rfl | (simp; done); done) | (rw [hs]; done))) ?_))⟩ hi⟩)
  · simp at h3
    refine j_exit (je_seq (je_loop (je_blk (jn_seq (j_seq ?_)))))
    obtain rfl : k = s.2.2.2.2.length := by omega
    refine j_region ?_
    refine jg_adr _ rfl _ rfl rfl (op_move (.base rfl)) ?_
    refine jg_adr _ rfl _ rfl rfl (op_assign (.base rfl)) ?_
    refine jg_nil ?_
    refine jn_keep [6] [70] (.cons rfl .nil) (.cons rfl .nil) ?_
    refine jn_seq (j_ret ?_)
    refine jr_seal (rt := rInt .i64) 70 6 (dropH 70 _) rfl rfl (by simp) (dropH_sub 70 _) (dropH_no 70 _) ?_
    exact jr_fin1 Try.results41 (res_tmp rfl) rfl (congrArg (SV.tv (rSlice (rInt .i64))) (by simp only [List.drop_zero, List.take_of_length_le (Nat.le_refl _)]))

theorem rtreeOn_ok (s : TScope) (d date : Int) (hlm : s.2.2.2.2.length ≤ 100000) : Ct Try.prog 20 [.tv rScope s, .raw (.int .i64 d), .raw (.int .i64 date)] (.tup3 (.tv (rSlice (rInt .i64)) (idxI (fD d date) s.2.2.2.2 s.2.2.2.2.length)) (.tv (rSlice (rInt .i64)) (parI (fD d date) s.2.2.2.2 s.2.2.2.2.length)) (.tv (rSlice (rInt .i64)) (priI (fD d date) s.2.2.2.2 s.2.2.2.2.length))) := by
  refine ct_intro Try.func20 rfl rfl Try.ntmps20 rfl rfl ?_
  intro w0 ok0
  refine j_seq ?_
  refine j_region ?_
  refine jg_os _ rfl (op_box (.tv (.base rfl)) rfl rfl rfl) ?_
  refine jg_adr _ rfl _ rfl rfl (op_assign (.base rfl)) ?_
  refine jg_adr _ rfl _ rfl rfl (op_assign (.base rfl)) ?_
  refine jg_adr _ rfl _ rfl rfl (op_assign (.base rfl)) ?_
  refine jg_nil ?_
  refine jn_keep [1, 2, 3] [3] (.cons rfl (.cons rfl (.cons rfl .nil))) (.cons rfl .nil) ?_
  refine jn_seq (j_seq ?_)
  refine j_region ?_
  refine jg_adr _ rfl _ rfl rfl (op_oload ty40 (.base rfl) rfl rfl (Lens.id _)) ?_
  refine jg_adr _ rfl _ rfl rfl (op_move (.base rfl)) ?_
  refine jg_adr _ rfl _ rfl rfl (op_move (.base rfl)) ?_
  refine jg_adr _ rfl _ rfl rfl (op_call (rrulesOn_ok _ _ _ (by omega)) (.cons (.base rfl) (.cons (.base rfl) (.cons (.base rfl) .nil))) rfl rfl) ?_
  refine jg_adr _ rfl _ rfl rfl (op_assign (.base rfl)) ?_
  refine jg_nil ?_
  refine jn_keep [3, 9] [3] (.cons rfl (.cons rfl .nil)) (.cons rfl .nil) ?_
  refine jn_seq (j_seq ?_)
  refine j_region ?_
  refine jg_adr _ rfl _ rfl rfl (op_assign (.base rfl)) ?_
  refine jg_adr _ rfl _ rfl rfl (op_assign (.base rfl)) ?_
  refine jg_nil ?_
  refine jn_keep [3, 9, 10, 11] [3] (.cons rfl (.cons rfl (.cons rfl (.cons rfl .nil)))) (.cons rfl .nil) ?_
  refine jn_seq (j_seq (j_seq ?_))
  have q1 := idxI_len (fD d date) s.2.2.2.2 s.2.2.2.2.length
  have q2 := idxs_len (fD d date) s.2.2.2.2 s.2.2.2.2.length
  refine j_region ?_
  refine jg_adr _ rfl _ rfl rfl (op_assign (.base rfl)) ?_
  refine jg_nil ?_
  refine jn_keep [3, 9, 10, 11, 12] [3] (.cons rfl (.cons rfl (.cons rfl (.cons rfl (.cons rfl .nil))))) (.cons rfl .nil) ?_
  refine jn_seq (j_block ?_)
  refine j_vac 70 10 (rInt .i64) rfl rfl rfl ?_
  refine j_vac 71 11 (rInt .i64) rfl rfl rfl ?_
  refine j_loopp (ι := Nat) (fun k => ⟨[(3, .optr 3 rScope.n 0 0), (9, .tv (rSlice (rInt .i64)) (idxI (fD d date) s.2.2.2.2 s.2.2.2.2.length)), (10, .own 70 (rInt .i64).n 0 (parK (fD d date) s.2.2.2.2 s.2.2.2.2.length k).length), (11, .own 71 (rInt .i64).n 0 (priK (fD d date) s.2.2.2.2 s.2.2.2.2.length k).length), (12, .raw (.int .i64 ((k : Nat))))], [(3, ⟨rScope, [s]⟩), (70, ⟨rInt .i64, (parK (fD d date) s.2.2.2.2 s.2.2.2.2.length k)⟩), (71, ⟨rInt .i64, (priK (fD d date) s.2.2.2.2 s.2.2.2.2.length k)⟩)]⟩) (fun k => k ≤ (idxs (fD d date) s.2.2.2.2 s.2.2.2.2.length).length) (fun k => (idxs (fD d date) s.2.2.2.2 s.2.2.2.2.length).length - k) 0 (Nat.zero_le _) (fun a w hi => (Sub.inv ⟨(by repeat (first | exact SubS_nil | refine SubS_cons rfl (by first | rfl | (simp; done) | assumption) ?_)), (by repeat (first | exact SubH_nil | refine SubH_cons rfl (by first | rfl | (simp; done) | assumption) ?_))⟩ hi)) ?_
  rintro k hk
  have q3 := priK_len (f := (fD d date)) (l := s.2.2.2.2) (n := s.2.2.2.2.length) (k := k)
  have q4 := parK_len (f := (fD d date)) (l := s.2.2.2.2) (n := s.2.2.2.2.length) (k := k)
  refine j_seq (j_seq ?_)
  refine j_region ?_
  refine jg_adr _ rfl _ rfl rfl (op_move (.base rfl)) ?_
  refine jg_adr _ rfl _ rfl rfl (op_move (.base rfl)) ?_
  refine jg_adr _ rfl _ rfl rfl (op_len Try.underlying32 (.base rfl)) ?_
  refine jg_adr _ rfl _ rfl rfl (op_lss (.base rfl) (.base rfl)) ?_
  refine jg_nil ?_
  refine jn_keep [3, 9, 10, 11, 12, 20] [3, 70, 71] (.cons rfl (.cons rfl (.cons rfl (.cons rfl (.cons rfl (.cons rfl .nil)))))) (.cons rfl (.cons rfl (.cons rfl .nil))) ?_
  refine jn_seq ?_
  refine j_cond rfl (fun h4 => ?_) (fun h4 => ?_)
  · have h4 : k < (idxs (fD d date) s.2.2.2.2 s.2.2.2.2.length).length := by simp at h4; omega
    have g2 := idxs_get_lt h4
    have hs := parK_succ h4
    have hs2 := priK_succ h4 (List.getElem?_eq_getElem g2)
    refine j_skip (jn_seq (j_seq (j_block (j_seq ?_))))
    refine j_draw_bar 9 mo (by kernel_rfl) (by kernel_rfl) (
      AS.cons _ _ rfl (ga_adr rfl rfl rfl (op_move (.base rfl))) (
        AS.cons _ _ rfl (ga_adr rfl rfl rfl (op_oload ty40 (.base rfl) rfl rfl (Lens.id _))) (
        AS.cons _ _ rfl (ga_adr rfl rfl rfl (op_move (.base rfl))) (
        AS.cons _ _ rfl (ga_adr rfl rfl rfl (op_move (.base rfl))) (
        AS.cons _ _ rfl (ga_adr rfl rfl rfl (op_move (.base rfl))) (
        AS.cons _ _ rfl (ga_adr rfl rfl rfl (op_index Try.underlying32 ty3 (.base rfl) (.base rfl) rfl (List.getElem?_eq_getElem (by first | omega | (simp; done) | (simp; omega) | (simp at hg; omega))))) (
        AS.cons _ _ rfl (ga_adr rfl rfl rfl (op_load ty3 (.base rfl))) (
        AS.cons _ _ rfl (ga_adr rfl rfl rfl (op_call (rparent_at (Nat.le_refl _) h4) (.cons (.base rfl) (.cons (.base rfl) (.cons (.base rfl) .nil))) rfl rfl)) (
        AS.cons _ _ rfl (ga_adr rfl rfl rfl (op_bslice (rt := (rInt .i64)) Try.underlying32 ty3 z3 rfl (.cons (.raw (.base rfl) rfl) .nil) rfl rfl)) (
        AS.nil)))))))))) rfl rfl (op_append [3, 9, 11, 12] Try.underlying32 ty3 z3 rfl by3 (.base rfl) rfl (by (try simp); try omega) (.tv (.base rfl)) (by unfold maxLen; (try simp); try omega) (by (try simp); try omega) rfl (.cons rfl (.cons rfl (.cons rfl (.cons rfl .nil)))) rfl) (
      AS.cons _ _ rfl (ga_adr rfl rfl rfl (op_assign (.base rfl))) (
        AS.nil)) ?_
    refine jn_keep [3, 9, 10, 11, 12] [3, 70, 71] (.cons rfl (.cons rfl (.cons rfl (.cons rfl (.cons rfl .nil))))) (.cons rfl (.cons rfl (.cons rfl .nil))) ?_
    refine jn_seq ?_
    refine j_draw_bar 11 mo (by kernel_rfl) (by kernel_rfl) (
      AS.cons _ _ rfl (ga_adr rfl rfl rfl (op_move (.base rfl))) (
        AS.cons _ _ rfl (ga_adr rfl rfl rfl (op_ofield fld40_4 (.base rfl))) (
        AS.cons _ _ rfl (ga_adr rfl rfl rfl (op_oload ty38 (.base rfl) rfl rfl ln40_4)) (
        AS.cons _ _ rfl (ga_adr rfl rfl rfl (op_move (.base rfl))) (
        AS.cons _ _ rfl (ga_adr rfl rfl rfl (op_move (.base rfl))) (
        AS.cons _ _ rfl (ga_adr rfl rfl rfl (op_index Try.underlying32 ty3 (.base rfl) (.base rfl) rfl (List.getElem?_eq_getElem (by first | omega | (simp; done) | (simp; omega) | (simp at hg; omega))))) (
        AS.cons _ _ rfl (ga_adr rfl rfl rfl (op_load ty3 (.base rfl))) (
        AS.cons _ _ rfl (ga_adr rfl rfl rfl (op_index Try.underlying38 ty48 (.base rfl) (.base rfl) (idxI_at h4) (List.getElem?_eq_getElem (by first | omega | (simp; done) | (simp; omega) | (simp at hg; omega))))) (
        AS.cons _ _ rfl (ga_adr rfl rfl rfl (op_field fld48_3 ln48_3 (.base rfl))) (
        AS.cons _ _ rfl (ga_adr rfl rfl rfl (op_load ty3 (.base rfl))) (
        AS.cons _ _ rfl (ga_adr rfl rfl rfl (op_bslice (rt := (rInt .i64)) Try.underlying32 ty3 z3 rfl (.cons (.raw (.base rfl) rfl) .nil) rfl rfl)) (
        AS.nil)))))))))))) rfl rfl (op_append [3, 9, 10, 12] Try.underlying32 ty3 z3 rfl by3 (.base rfl) rfl (by (try simp); try omega) (.tv (.base rfl)) (by unfold maxLen; (try simp); try omega) (by (try simp); try omega) rfl (.cons rfl (.cons rfl (.cons rfl (.cons rfl .nil)))) rfl) (
      AS.cons _ _ rfl (ga_adr rfl rfl rfl (op_assign (.base rfl))) (
        AS.nil)) ?_
    refine jn_keep [3, 9, 10, 11, 12] [3, 70, 71] (.cons rfl (.cons rfl (.cons rfl (.cons rfl (.cons rfl .nil))))) (.cons rfl (.cons rfl (.cons rfl .nil))) ?_
    refine jn_blk (jn_seq ?_)
    refine j_region ?_
    refine jg_adr _ rfl _ rfl rfl (op_move (.base rfl)) ?_
    refine jg_adr _ rfl _ rfl rfl (op_add (.base rfl) (.base rfl) (w64 (by omega))) ?_
    refine jg_adr _ rfl _ rfl rfl (op_assign (.base rfl)) ?_
    refine jg_nil ?_
    refine jn_keep [3, 9, 10, 11, 12] [3, 70, 71] (.cons rfl (.cons rfl (.cons rfl (.cons rfl (.cons rfl .nil))))) (.cons rfl (.cons rfl (.cons rfl .nil))) ?_
    exact jn_loop (fun a w hi => ⟨k + 1, (by omega), (by omega), Sub.inv ⟨(by repeat (first | exact SubS_nil | refine SubS_cons rfl (by first | rfl | (refine congrArg (SV.own 70 (rInt .i64).n 0) ?_; first | (rw [hs]; simp; done)) | (refine congrArg (SV.own 71 (rInt .i64).n 0) ?_; first | (rw [hs2]; simp; done))) ?_)), (by repeat (first | exact SubH_nil | refine SubH_cons rfl (by first | rfl | (refine congrArg (HB.mk (rInt .i64)) ?_; first | rfl | (rw [hs]; (try simp only [List.drop_zero, List.take_of_length_le (Nat.le_refl _)]); first | done | rfl | (simp; done); done) | (rw [hs2]; (try simp only [List.drop_zero, List.take_of_length_le (Nat.le_refl _)]); first | done | rfl | (simp; done); done))) ?_))⟩ hi⟩)
  · simp at h4
    refine j_exit (je_seq (je_loop (je_blk (jn_seq (j_seq ?_)))))
    obtain rfl : k = (idxs (fD d date) s.2.2.2.2 s.2.2.2.2.length).length := by omega
    rw [priK_n, parK_n]
    refine j_region ?_
    refine jg_adr _ rfl _ rfl rfl (op_move (.base rfl)) ?_
    refine jg_adr _ rfl _ rfl rfl (op_move (.base rfl)) ?_
    refine jg_adr _ rfl _ rfl rfl (op_move (.base rfl)) ?_
    refine jg_adr _ rfl _ rfl rfl (op_assign (.base rfl)) ?_
    refine jg_adr _ rfl _ rfl rfl (op_assign (.base rfl)) ?_
    refine jg_adr _ rfl _ rfl rfl (op_assign (.base rfl)) ?_
    refine jg_nil ?_
    refine jn_keep [6, 7, 8] [70, 71] (.cons rfl (.cons rfl (.cons rfl .nil))) (.cons rfl (.cons rfl .nil)) ?_
    refine jn_seq (j_ret ?_)
    refine jr_seal (rt := rInt .i64) 70 7 (dropH 70 _) rfl rfl (by simp) (dropH_sub 70 _) (dropH_no 70 _) ?_
    refine jr_seal (rt := rInt .i64) 71 8 (dropH 71 _) rfl rfl (by simp) (dropH_sub 71 _) (dropH_no 71 _) ?_
    exact jr_fin3 Try.results20 (res_tmp rfl) (res_tmp rfl) (res_tmp rfl) ⟨rfl, rfl, rfl⟩ (by simp only [List.drop_zero, List.take_of_length_le (Nat.le_refl _)])

end Go.Proofs.Ythfhekohlmboiaa
