import Derived.Test.YtnfdimmbpcgkpaaP05f
namespace Go.Proofs.Ytnfdimmbpcgkpaa
open Go.Eng
set_option maxRecDepth 100000
set_option maxHeartbeats 4000000
set_option linter.unusedVariables false
set_option linter.unusedSimpArgs false


theorem ins5_bound {l : List Int} {n : Int} {m : Nat} (h : l.length ≤ m) : (ins5 (uniqS l) n).length ≤ m + 1 := by
  rw [ins5_uniqS]; have := uniqS_len (l ++ [n]); simp at this; omega

theorem bounds5_ok (l : List Rg) (hlm : l.length ≤ 100000) : Ct Try.prog 17 [.tv (rSlice rDateRange) l] (.tv (rSlice (rInt .i64)) (uniqS (bnd l))) := by
  refine ct_intro Try.func17 rfl rfl Try.ntmps17 rfl rfl ?_
  intro w0 ok0
  refine j_len 0 rfl (fun hl0 => ?_)
  refine j_seq ?_
  refine j_region ?_
  refine jg_adr _ rfl _ rfl rfl (op_assign (.base rfl)) ?_
  refine jg_nil ?_
  refine jn_keep [0] [] (.cons rfl .nil) .nil ?_
  refine jn_seq (j_seq ?_)
  refine j_region ?_
  refine jg_adr _ rfl _ rfl rfl (op_assign (.base rfl)) ?_
  refine jg_nil ?_
  refine jn_keep [0, 3] [] (.cons rfl (.cons rfl .nil)) .nil ?_
  refine jn_seq (j_seq (j_seq ?_))
  refine j_region ?_
  refine jg_adr _ rfl _ rfl rfl (op_move (.base rfl)) ?_
  refine jg_adr _ rfl _ rfl rfl (op_len Try.underlying22 (.base rfl)) ?_
  refine jg_adr _ rfl _ rfl rfl (op_move (.base rfl)) ?_
  refine jg_nil ?_
  refine jn_keep [3, 6, 7, 8] [] (.cons rfl (.cons rfl (.cons rfl (.cons rfl .nil)))) .nil ?_
  refine jn_seq (j_block ?_)
  refine j_vac 70 3 (rInt .i64) rfl rfl rfl ?_
  refine j_loopp (ι := Nat) (fun k => ⟨[(3, .own 70 (rInt .i64).n 0 (bnd (l.take k)).length), (6, .tv (rSlice rDateRange) l), (7, .raw (.int .i64 (l.length))), (8, .raw (.int .i64 ((k : Nat))))], [(70, ⟨rInt .i64, (bnd (l.take k))⟩)]⟩) (fun k => k ≤ l.length) (fun k => l.length - k) 0 (Nat.zero_le _) (fun a w hi => (Sub.inv ⟨(by repeat (first | exact SubS_nil | refine SubS_cons rfl (by first | rfl | (simp; done) | assumption) ?_)), (by repeat (first | exact SubH_nil | refine SubH_cons rfl (by first | rfl | (simp; done) | assumption) ?_))⟩ hi)) ?_
  rintro k hk
  have hbl := bnd_len (l.take k)
  have htl : (l.take k).length ≤ l.length := by simp; omega
  refine j_seq ?_
  refine j_region ?_
  refine jg_adr _ rfl _ rfl rfl (op_lss (.base rfl) (.base rfl)) ?_
  refine jg_nil ?_
  refine jn_keep [3, 6, 7, 8, 9] [70] (.cons rfl (.cons rfl (.cons rfl (.cons rfl (.cons rfl .nil))))) (.cons rfl .nil) ?_
  refine jn_seq (j_seq ?_)
  refine j_cond rfl (fun h3 => ?_) (fun h3 => ?_)
  · try simp at h3
    refine j_skip (jn_seq (j_seq (j_block (j_seq ?_))))
    refine j_region ?_
    refine jg_adr _ rfl _ rfl rfl (op_index Try.underlying22 ty24 (.base rfl) (.base rfl) rfl (List.getElem?_eq_getElem (by first | omega | (simp; done) | (simp; omega) | (simp at hg; omega)))) ?_
    refine jg_adr _ rfl _ rfl rfl (op_load ty24 (.base rfl)) ?_
    refine jg_os _ rfl (op_alloc _ z24 rfl rfl rfl) ?_
    refine jg_os _ rfl (op_ostore ty24 (.base rfl) rfl rfl (Lens.id _) (.tv (.base rfl))) ?_
    refine jg_nil ?_
    refine jn_keep [3, 5, 6, 7, 8] [5, 70] (.cons rfl (.cons rfl (.cons rfl (.cons rfl (.cons rfl .nil))))) (.cons rfl (.cons rfl .nil)) ?_
    refine jn_seq (j_seq ?_)
    refine j_region ?_
    refine jg_adr _ rfl _ rfl rfl (op_oload ty24 (.base rfl) rfl rfl (Lens.id _)) ?_
    refine jg_adr _ rfl _ rfl rfl (op_call (hasDate_ok _) (.cons (.base rfl) .nil) rfl rfl) ?_
    refine jg_nil ?_
    refine jn_keep [3, 5, 6, 7, 8, 13] [5, 70] (.cons rfl (.cons rfl (.cons rfl (.cons rfl (.cons rfl (.cons rfl .nil)))))) (.cons rfl (.cons rfl .nil)) ?_
    refine jn_seq ?_
    refine j_cond rfl (fun h5 => ?_) (fun h5 => ?_)
    · have hs := bnd_succ (l := l) (k := k) (by omega)
      rw [if_pos h5] at hs
      refine j_region ?_
      refine jg_adr _ rfl _ rfl rfl (op_move (.base rfl)) ?_
      refine jg_adr _ rfl _ rfl rfl (op_ofield fld24_0 (.base rfl)) ?_
      refine jg_adr _ rfl _ rfl rfl (op_oload ty3 (.base rfl) rfl rfl ln24_0) ?_
      refine jg_adr _ rfl _ rfl rfl (op_ofield fld24_1 (.base rfl)) ?_
      refine jg_adr _ rfl _ rfl rfl (op_oload ty3 (.base rfl) rfl rfl ln24_1) ?_
      refine jg_adr _ rfl _ rfl rfl (op_bslice (rt := (rInt .i64)) Try.underlying31 ty3 z3 rfl (.cons (.raw (.base rfl) rfl) (.cons (.raw (.base rfl) rfl) .nil)) rfl rfl) ?_
      refine jg_os _ rfl (op_append [6, 7, 8] Try.underlying31 ty3 z3 rfl by3 (.base rfl) rfl (by (try simp); try omega) (.tv (.base rfl)) (by unfold maxLen; (try simp); try omega) (by (try simp); try omega) rfl (.cons rfl (.cons rfl (.cons rfl .nil))) rfl) ?_
      refine jg_adr _ rfl _ rfl rfl (op_assign (.base rfl)) ?_
      refine jg_nil ?_
      refine jn_keep [3, 6, 7, 8] [70] (.cons rfl (.cons rfl (.cons rfl (.cons rfl .nil)))) (.cons rfl .nil) ?_
      refine jn_blk (jn_seq ?_)
      refine j_region ?_
      refine jg_adr _ rfl _ rfl rfl (op_add (.base rfl) (.base rfl) (w64 (by omega))) ?_
      refine jg_adr _ rfl _ rfl rfl (op_move (.base rfl)) ?_
      refine jg_nil ?_
      refine jn_keep [3, 6, 7, 8] [70] (.cons rfl (.cons rfl (.cons rfl (.cons rfl .nil)))) (.cons rfl .nil) ?_
      exact jn_loop (fun a w hi => ⟨k + 1, (by omega), (by omega), Sub.inv ⟨(by repeat (first | exact SubS_nil | refine SubS_cons rfl (by first | rfl | exact congrArg (SV.own 70 (rInt .i64).n 0) (by rw [hs]; try simp; try omega)) ?_)), (by repeat (first | exact SubH_nil | refine SubH_cons rfl (by first | rfl | (refine congrArg (HB.mk (rInt .i64)) ?_; rw [hs]; try (simp only [List.drop_zero, List.take_of_length_le (Nat.le_refl _), List.append_nil]); first | done | rfl | (simp; done))) ?_))⟩ hi⟩)
    · have hs := bnd_succ (l := l) (k := k) (by omega)
      rw [if_neg (by rw [h5]; simp), List.append_nil] at hs
      refine j_skip (jn_blk (jn_seq ?_))
      refine j_region ?_
      refine jg_adr _ rfl _ rfl rfl (op_add (.base rfl) (.base rfl) (w64 (by omega))) ?_
      refine jg_adr _ rfl _ rfl rfl (op_move (.base rfl)) ?_
      refine jg_nil ?_
      refine jn_keep [3, 6, 7, 8] [70] (.cons rfl (.cons rfl (.cons rfl (.cons rfl .nil)))) (.cons rfl .nil) ?_
      exact jn_loop (fun a w hi => ⟨k + 1, (by omega), (by omega), Sub.inv ⟨(by repeat (first | exact SubS_nil | refine SubS_cons rfl (by first | rfl | exact congrArg (SV.own 70 (rInt .i64).n 0) (by rw [hs]; try simp; try omega)) ?_)), (by repeat (first | exact SubH_nil | refine SubH_cons rfl (by first | rfl | (refine congrArg (HB.mk (rInt .i64)) ?_; rw [hs]; try (simp only [List.drop_zero, List.take_of_length_le (Nat.le_refl _), List.append_nil]); first | done | rfl | (simp; done))) ?_))⟩ hi⟩)
  · try simp at h3
    refine j_exit (je_seq (je_loop (je_blk (jn_seq (j_seq ?_)))))
    have hkk : k = l.length := by omega
    subst hkk
    refine j_region ?_
    refine jg_adr _ rfl _ rfl rfl (op_move (.base rfl)) ?_
    refine jg_os _ rfl (op_turn0d turn_sort (.base rfl) rfl (by rfl) (by omega) (fun _ => rfl) rfl) ?_
    refine jg_nil ?_
    refine jn_keep [3] [70] (.cons rfl .nil) (.cons rfl .nil) ?_
    refine jn_seq (j_seq ?_)
    refine j_region ?_
    refine jg_adr _ rfl _ rfl rfl (op_move (.base rfl)) ?_
    refine jg_os _ rfl (op_turn1 turn_compact (.base rfl) rfl (by rw [List.length_mergeSort]) (by rw [List.length_mergeSort]; omega) rfl) ?_
    refine jg_adr _ rfl _ rfl rfl (op_assign (.base rfl)) ?_
    refine jg_nil ?_
    refine jn_keep [2] [70] (.cons rfl .nil) (.cons rfl .nil) ?_
    refine jn_seq (j_ret ?_)
    refine jr_seal (rt := rInt .i64) 70 2 (dropH 70 _) rfl rfl (by rw [cptZ_len, Nat.zero_add]; exact Lib.compact_length_le _) (dropH_sub 70 _) (dropH_no 70 _) ?_
    exact jr_fin1 Try.results17 (res_tmp rfl) rfl (congrArg (SV.tv (rSlice (rInt .i64))) (by simp only [List.drop_zero, List.take_of_length_le (Nat.le_refl _), cpt_take]; rfl))

theorem rbounds5_ok (l : List Rg) (hlm : l.length ≤ 100000) : Ct Try.prog 18 [.tv (rSlice rDateRange) l] (.tv (rSlice (rInt .i64)) (uniqS (bnd l))) := by
  refine ct_intro Try.func18 rfl rfl Try.ntmps18 rfl rfl ?_
  intro w0 ok0
  refine j_len 0 rfl (fun hl0 => ?_)
  refine j_seq ?_
  refine j_region ?_
  refine jg_adr _ rfl _ rfl rfl (op_assign (.base rfl)) ?_
  refine jg_nil ?_
  refine jn_keep [0] [] (.cons rfl .nil) .nil ?_
  refine jn_seq (j_seq ?_)
  refine j_region ?_
  refine jg_adr _ rfl _ rfl rfl (op_assign (.base rfl)) ?_
  refine jg_nil ?_
  refine jn_keep [0, 3] [] (.cons rfl (.cons rfl .nil)) .nil ?_
  refine jn_seq (j_seq (j_seq ?_))
  refine j_region ?_
  refine jg_adr _ rfl _ rfl rfl (op_assign (.base rfl)) ?_
  refine jg_nil ?_
  refine jn_keep [0, 3, 4] [] (.cons rfl (.cons rfl (.cons rfl .nil))) .nil ?_
  refine jn_seq (j_block ?_)
  refine j_nil 3 (rInt .i64) rfl ?_
  refine j_loopp (ι := Nat) (fun k => ⟨[(0, .tv (rSlice rDateRange) l), (3, .tv (rSlice (rInt .i64)) (uniqS (bnd (l.take k)))), (4, .raw (.int .i64 ((k : Nat))))], []⟩) (fun k => k ≤ l.length) (fun k => l.length - k) 0 (Nat.zero_le _) (fun a w hi => (Sub.inv ⟨(by repeat (first | exact SubS_nil | refine SubS_cons rfl (by first | rfl | (refine congrArg (SV.tv (rSlice (rInt .i64))) ?_; first | (exact uniqS_nil.symm; done))) ?_)), (by repeat (first | exact SubH_nil | refine SubH_cons rfl (by first | rfl | (simp; done) | assumption) ?_))⟩ hi)) ?_
  rintro k hk
  have hbl := bnd_len (l.take k)
  have htl : (l.take k).length ≤ l.length := by simp; omega
  have hul := uniqS_len (bnd (l.take k))
  refine j_seq (j_seq ?_)
  refine j_region ?_
  refine jg_adr _ rfl _ rfl rfl (op_move (.base rfl)) ?_
  refine jg_adr _ rfl _ rfl rfl (op_move (.base rfl)) ?_
  refine jg_adr _ rfl _ rfl rfl (op_len Try.underlying22 (.base rfl)) ?_
  refine jg_adr _ rfl _ rfl rfl (op_lss (.base rfl) (.base rfl)) ?_
  refine jg_nil ?_
  refine jn_keep [0, 3, 4, 8] [] (.cons rfl (.cons rfl (.cons rfl (.cons rfl .nil)))) .nil ?_
  refine jn_seq ?_
  refine j_cond rfl (fun h3 => ?_) (fun h3 => ?_)
  · try simp at h3
    refine j_skip (jn_seq (j_seq (j_block (j_seq ?_))))
    refine j_region ?_
    refine jg_adr _ rfl _ rfl rfl (op_move (.base rfl)) ?_
    refine jg_adr _ rfl _ rfl rfl (op_move (.base rfl)) ?_
    refine jg_adr _ rfl _ rfl rfl (op_index Try.underlying22 ty24 (.base rfl) (.base rfl) rfl (List.getElem?_eq_getElem (by first | omega | (simp; done) | (simp; omega) | (simp at hg; omega)))) ?_
    refine jg_adr _ rfl _ rfl rfl (op_load ty24 (.base rfl)) ?_
    refine jg_adr _ rfl _ rfl rfl (op_call (rnonempty_ok _) (.cons (.base rfl) .nil) rfl rfl) ?_
    refine jg_nil ?_
    refine jn_keep [0, 3, 4, 15] [] (.cons rfl (.cons rfl (.cons rfl (.cons rfl .nil)))) .nil ?_
    refine jn_seq ?_
    refine j_cond rfl (fun h5 => ?_) (fun h5 => ?_)
    · have hs := bnd_succ (l := l) (k := k) (by omega)
      rw [if_pos h5] at hs
      have hi1 := ins5_bound (n := (l[k]'(by omega)).1) (Nat.le_refl (bnd (l.take k)).length)
      refine j_draw mo (by kernel_rfl) (
        AS.cons _ _ rfl (ga_adr rfl rfl rfl (op_move (.base rfl))) (
          AS.cons _ _ rfl (ga_adr rfl rfl rfl (op_move (.base rfl))) (
          AS.cons _ _ rfl (ga_adr rfl rfl rfl (op_move (.base rfl))) (
          AS.cons _ _ rfl (ga_adr rfl rfl rfl (op_index Try.underlying22 ty24 (.base rfl) (.base rfl) rfl (List.getElem?_eq_getElem (by first | omega | (simp; done) | (simp; omega) | (simp at hg; omega))))) (
          AS.cons _ _ rfl (ga_adr rfl rfl rfl (op_field fld24_0 ln24_0 (.base rfl))) (
          AS.cons _ _ rfl (ga_adr rfl rfl rfl (op_load ty3 (.base rfl))) (
          AS.cons _ _ rfl (ga_adr rfl rfl rfl (op_call (insert5_ok _ _ (by omega)) (.cons (.base rfl) (.cons (.base rfl) .nil)) rfl rfl)) (
          AS.cons _ _ rfl (ga_adr rfl rfl rfl (op_move (.base rfl))) (
          AS.cons _ _ rfl (ga_adr rfl rfl rfl (op_move (.base rfl))) (
          AS.cons _ _ rfl (ga_adr rfl rfl rfl (op_index Try.underlying22 ty24 (.base rfl) (.base rfl) rfl (List.getElem?_eq_getElem (by first | omega | (simp; done) | (simp; omega) | (simp at hg; omega))))) (
          AS.cons _ _ rfl (ga_adr rfl rfl rfl (op_field fld24_1 ln24_1 (.base rfl))) (
          AS.cons _ _ rfl (ga_adr rfl rfl rfl (op_load ty3 (.base rfl))) (
          AS.cons _ _ rfl (ga_adr rfl rfl rfl (op_call (insert5_ok _ _ (by omega)) (.cons (.base rfl) (.cons (.base rfl) .nil)) rfl rfl)) (
          AS.cons _ _ rfl (ga_adr rfl rfl rfl (op_assign (.base rfl))) (
          AS.nil))))))))))))))) ?_
      refine jn_keep [0, 3, 4] [] (.cons rfl (.cons rfl (.cons rfl .nil))) .nil ?_
      refine jn_blk (jn_seq ?_)
      refine j_region ?_
      refine jg_adr _ rfl _ rfl rfl (op_move (.base rfl)) ?_
      refine jg_adr _ rfl _ rfl rfl (op_add (.base rfl) (.base rfl) (w64 (by omega))) ?_
      refine jg_adr _ rfl _ rfl rfl (op_assign (.base rfl)) ?_
      refine jg_nil ?_
      refine jn_keep [0, 3, 4] [] (.cons rfl (.cons rfl (.cons rfl .nil))) .nil ?_
      exact jn_loop (fun a w hi => ⟨k + 1, (by omega), (by omega), Sub.inv ⟨(by repeat (first | exact SubS_nil | refine SubS_cons rfl (by first | rfl | (refine congrArg (SV.tv (rSlice (rInt .i64))) ?_; first | (rw [hs]; done) | (rw [ins5_uniqS, ins5_uniqS, hs]; simp; done))) ?_)), (by repeat (first | exact SubH_nil | refine SubH_cons rfl (by first | rfl | (simp; done) | assumption) ?_))⟩ hi⟩)
    · have hs := bnd_succ (l := l) (k := k) (by omega)
      rw [if_neg (by rw [h5]; simp), List.append_nil] at hs
      refine j_skip (jn_blk (jn_seq ?_))
      refine j_region ?_
      refine jg_adr _ rfl _ rfl rfl (op_move (.base rfl)) ?_
      refine jg_adr _ rfl _ rfl rfl (op_add (.base rfl) (.base rfl) (w64 (by omega))) ?_
      refine jg_adr _ rfl _ rfl rfl (op_assign (.base rfl)) ?_
      refine jg_nil ?_
      refine jn_keep [0, 3, 4] [] (.cons rfl (.cons rfl (.cons rfl .nil))) .nil ?_
      exact jn_loop (fun a w hi => ⟨k + 1, (by omega), (by omega), Sub.inv ⟨(by repeat (first | exact SubS_nil | refine SubS_cons rfl (by first | rfl | (refine congrArg (SV.tv (rSlice (rInt .i64))) ?_; first | (rw [hs]; done) | (rw [ins5_uniqS, ins5_uniqS, hs]; simp; done))) ?_)), (by repeat (first | exact SubH_nil | refine SubH_cons rfl (by first | rfl | (simp; done) | assumption) ?_))⟩ hi⟩)
  · try simp at h3
    refine j_exit (je_seq (je_loop (je_blk (jn_seq (j_seq ?_)))))
    have hkk : k = l.length := by omega
    subst hkk
    refine j_region ?_
    refine jg_adr _ rfl _ rfl rfl (op_move (.base rfl)) ?_
    refine jg_adr _ rfl _ rfl rfl (op_assign (.base rfl)) ?_
    refine jg_nil ?_
    refine jn_keep [2] [] (.cons rfl .nil) .nil ?_
    refine jn_seq (j_ret ?_)
    exact jr_fin1 Try.results18 (res_tmp rfl) rfl (congrArg (SV.tv (rSlice (rInt .i64))) (by rw [List.take_of_length_le (Nat.le_refl _)]))

end Go.Proofs.Ytnfdimmbpcgkpaa
