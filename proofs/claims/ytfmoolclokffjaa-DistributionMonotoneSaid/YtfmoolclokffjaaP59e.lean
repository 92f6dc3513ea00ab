import Derived.Test.YtfmoolclokffjaaP59o
namespace Go.Proofs.Ytfmoolclokffjaa
open Go.Eng
set_option maxRecDepth 100000
set_option maxHeartbeats 4000000
set_option linter.unusedVariables false
set_option linter.unusedSimpArgs false


theorem alloc_k {m N : Nat} (hm : m ≤ 4096) (hN : 1 ≤ N ∧ N ≤ 64) : Ct Try.prog 30 [.raw (.int .i64 (m : Nat)), .tv (rSlice (rInt .i64)) (onesL N)] (.tup2 (.tv (rSlice (rInt .i64)) (szs m N)) (.raw (.int .i64 0))) := by
  have h := allocate_ok (m : Int) (onesL N)
  rw [alloc_ones hm hN] at h
  exact h
theorem ralloc_k {m N : Nat} (hm : m ≤ 4096) (hN : 1 ≤ N ∧ N ≤ 64) : Ct Try.prog 31 [.raw (.int .i64 (m : Nat)), .tv (rSlice (rInt .i64)) (onesL N)] (.tup2 (.tv (rSlice (rInt .i64)) (szs m N)) (.raw (.int .i64 0))) := by
  have h := rallocate_ok (m : Int) (onesL N) (by simp [onesL]; omega)
  rw [alloc_ones hm hN] at h
  exact h
theorem getL {l : List Int} {i : Nat} (hi : i < l.length) : l[i]? = some (l.getD i 0) := by
  rw [List.getD_eq_getElem?_getD, List.getElem?_eq_getElem hi]; rfl

theorem shares_ok (l : List Int) (n : Int) : Ct Try.prog 19 [.tv (rSlice (rInt .i64)) l, .raw (.int .i64 n)] (svLI (sharesR l n)) := by
  refine ct_intro Try.func19 rfl rfl Try.ntmps19 rfl rfl ?_
  intro w0 ok0
  refine j_len 0 rfl (fun hl0 => ?_)
  refine j_seq ?_
  refine j_region ?_
  refine jg_adr _ rfl _ rfl rfl (op_assign (.base rfl)) ?_
  refine jg_adr _ rfl _ rfl rfl (op_assign (.base rfl)) ?_
  refine jg_nil ?_
  refine jn_keep [0, 1] [] (.cons rfl (.cons rfl .nil)) .nil ?_
  refine jn_seq (j_seq (j_seq ?_))
  refine j_region ?_
  refine jg_adr _ rfl _ rfl rfl (op_move (.base rfl)) ?_
  refine jg_adr _ rfl _ rfl rfl (op_len Try.underlying22 (.base rfl)) ?_
  refine jg_adr _ rfl _ rfl rfl (op_gtr (.base rfl) (.base rfl)) ?_
  refine jg_nil ?_
  refine jn_keep [0, 1, 18] [] (.cons rfl (.cons rfl (.cons rfl .nil))) .nil ?_
  refine jn_seq ?_
  refine j_cond rfl (fun h1 => ?_) (fun h1 => ?_)
  · have k1 : 4096 < l.length := by simp at h1; omega
    refine j_seq ?_
    refine j_region ?_
    refine jg_adr _ rfl _ rfl rfl (op_assign (.base rfl)) ?_
    refine jg_adr _ rfl _ rfl rfl (op_assign (.base rfl)) ?_
    refine jg_nil ?_
    refine jn_keep [4, 5] [] (.cons rfl (.cons rfl .nil)) .nil ?_
    refine jn_seq (j_ret (jr_seq ?_))
    exact jr_fin2 Try.results19 (res_nil rfl) (res_tmp rfl) ⟨rfl, rfl⟩ (svLI_eq (by unfold sharesR; rw [if_pos k1]))
  · have k1 : ¬ 4096 < l.length := by simp at h1; omega
    refine j_skip (jn_seq (j_seq (j_seq ?_)))
    refine j_region ?_
    refine jg_adr _ rfl _ rfl rfl (op_move (.base rfl)) ?_
    refine jg_adr _ rfl _ rfl rfl (op_lss (.base rfl) (.base rfl)) ?_
    refine jg_adr _ rfl _ rfl rfl (op_move (.base rfl)) ?_
    refine jg_gd _ _ _ _ _ _ rfl rfl rfl rfl rfl (fun hg => op_move (.base rfl)) ?_
    refine jg_gd _ _ _ _ _ _ rfl rfl rfl rfl rfl (fun hg => op_gtr (.gd rfl hg) (.base rfl)) ?_
    refine jg_adr _ rfl _ rfl rfl (op_pick_or (.base rfl) (.base rfl) rfl (by intro h; first | (rw [h]; rfl) | (rw [hg, h]; rfl) | (rw [h, hg]; rfl) | simp_all)) ?_
    refine jg_adr _ rfl _ rfl rfl (op_move (.base rfl)) ?_
    refine jg_gd _ _ _ _ _ _ rfl rfl rfl rfl rfl (fun hg => op_move (.base rfl)) ?_
    refine jg_gd _ _ _ _ _ _ rfl rfl rfl rfl rfl (fun hg => op_call (within_ok _) (.cons (.gd rfl hg) .nil) rfl rfl) ?_
    refine jg_gd _ _ _ _ _ _ rfl rfl rfl rfl rfl (fun hg => op_not (.gd rfl hg)) ?_
    refine jg_adr _ rfl _ rfl rfl (op_pick_or (.base rfl) (.base rfl) rfl (by intro h; first | (rw [h]; rfl) | (rw [hg, h]; rfl) | (rw [h, hg]; rfl) | simp_all)) ?_
    refine jg_nil ?_
    refine jn_keep [0, 1, 29] [] (.cons rfl (.cons rfl (.cons rfl .nil))) .nil ?_
    refine jn_seq ?_
    refine j_cond rfl (fun h3 => ?_) (fun h3 => ?_)
    · have k3 : (n < 1 ∨ 64 < n) ∨ okL l = false := by simpa using h3
      refine j_seq ?_
      refine j_region ?_
      refine jg_adr _ rfl _ rfl rfl (op_assign (.base rfl)) ?_
      refine jg_adr _ rfl _ rfl rfl (op_assign (.base rfl)) ?_
      refine jg_nil ?_
      refine jn_keep [4, 5] [] (.cons rfl (.cons rfl .nil)) .nil ?_
      refine jn_seq (j_ret (jr_seq ?_))
      exact jr_fin2 Try.results19 (res_nil rfl) (res_tmp rfl) ⟨rfl, rfl⟩ (svLI_eq (by unfold sharesR; rw [if_neg k1, if_pos k3]))
    · have k3 : ¬ ((n < 1 ∨ 64 < n) ∨ okL l = false) := by simpa using h3
      have hol : okL l = true := by simpa using (not_or.1 k3).2
      have k4 := (not_or.1 k3).1
      have k4 : 1 ≤ n ∧ n ≤ 64 := by omega
      obtain ⟨N, rfl⟩ : ∃ N : Nat, n = (N : Int) := ⟨n.toNat, by omega⟩
      have hzl := szs_len l.length N
      have hrl := srt_len l
      have hsok := srt_ok hol
      have honl : (onesL N).length = N := by simp [onesL]
      refine j_skip (jn_seq (j_seq ?_))
      refine j_region ?_
      refine jg_adr _ rfl _ rfl rfl (op_move (.base rfl)) ?_
      refine jg_os _ rfl (op_make Try.underlying22 ty3 z3 rfl by3 (.base rfl) (.base rfl) (by omega) (by unfold maxLen; omega) rfl rfl rfl) ?_
      refine jg_adr _ rfl _ rfl rfl (op_assign (.base rfl)) ?_
      refine jg_nil ?_
      refine jn_keep [0, 1, 6] [31] (.cons rfl (.cons rfl (.cons rfl .nil))) (.cons rfl .nil) ?_
      refine jn_seq (j_seq (j_seq ?_))
      refine j_region ?_
      refine jg_adr _ rfl _ rfl rfl (op_move (.base rfl)) ?_
      refine jg_adr _ rfl _ rfl rfl (op_len_own Try.underlying22 (.base rfl)) ?_
      refine jg_adr _ rfl _ rfl rfl (op_move (.base rfl)) ?_
      refine jg_nil ?_
      refine jn_keep [0, 1, 6, 33, 34] [31] (.cons rfl (.cons rfl (.cons rfl (.cons rfl (.cons rfl .nil))))) (.cons rfl .nil) ?_
      refine jn_seq (j_block ?_)
      refine j_loopp (ι := Nat) (fun i => ⟨[(0, .tv (rSlice (rInt .i64)) l), (1, .raw (.int .i64 ((N : Int)))), (6, .own 31 (rInt .i64).n (0) (N)), (33, .raw (.int .i64 ((N : Nat)))), (34, .raw (.int .i64 ((i : Nat))))], [(31, ⟨rInt .i64, fillO i N⟩)]⟩) (fun i => i ≤ N) (fun i => N - i) 0 (Nat.zero_le _) (fun a w hi => (Sub.inv ⟨(by repeat (first | exact SubS_nil | refine SubS_cons rfl (by first | rfl | (refine congrArg (fun z => SV.raw (Value.int .i64 z)) ?_; first | omega | (simp; done)) | (refine congrArg (SV.own _ _ _) ?_; first | omega | (simp; done)) | rfl) ?_)), (by repeat (first | exact SubH_nil | refine SubH_cons rfl (by first | rfl | exact congrArg (HB.mk (rInt .i64)) ((fillO_0 N).symm)) ?_))⟩ hi)) ?_
      rintro i hi1
      have hfl := fillO_len hi1
      refine j_seq ?_
      refine j_region ?_
      refine jg_adr _ rfl _ rfl rfl (op_lss (.base rfl) (.base rfl)) ?_
      refine jg_nil ?_
      refine jn_keep [0, 1, 6, 33, 34, 35] [31] (.cons rfl (.cons rfl (.cons rfl (.cons rfl (.cons rfl (.cons rfl .nil)))))) (.cons rfl .nil) ?_
      refine jn_seq (j_seq ?_)
      refine j_cond rfl (fun h7 => ?_) (fun h7 => ?_)
      · have h7 : i < N := by simpa using h7
        refine j_skip (jn_seq (j_seq (j_block (j_seq ?_))))
        refine j_region ?_
        refine jg_adr _ rfl _ rfl rfl (op_move (.base rfl)) ?_
        refine jg_adr _ rfl _ rfl rfl (op_assign (.base rfl)) ?_
        refine jg_nil ?_
        refine jn_keep [0, 1, 6, 7, 33, 34] [31] (.cons rfl (.cons rfl (.cons rfl (.cons rfl (.cons rfl (.cons rfl .nil)))))) (.cons rfl .nil) ?_
        refine jn_seq ?_
        refine j_region ?_
        refine jg_adr _ rfl _ rfl rfl (op_move (.base rfl)) ?_
        refine jg_adr _ rfl _ rfl rfl (op_move (.base rfl)) ?_
        refine jg_adr _ rfl _ rfl rfl (op_oindex Try.underlying22 ty3 (.base rfl) (.base rfl) rfl (by first | omega | (simp; done) | (simp; omega))) ?_
        refine jg_os _ rfl (op_ostore ty3 (.base rfl) rfl (by rw [Nat.zero_add]; exact fillO_at h7) (Lens.id _) (.raw (.base rfl) rfl)) ?_
        refine jg_nil ?_
        refine jn_keep [0, 1, 6, 33, 34] [31] (.cons rfl (.cons rfl (.cons rfl (.cons rfl (.cons rfl .nil))))) (.cons rfl .nil) ?_
        refine jn_blk (jn_seq ?_)
        refine j_region ?_
        refine jg_adr _ rfl _ rfl rfl (op_add (.base rfl) (.base rfl) (w64 (by omega))) ?_
        refine jg_adr _ rfl _ rfl rfl (op_move (.base rfl)) ?_
        refine jg_nil ?_
        refine jn_keep [0, 1, 6, 33, 34] [31] (.cons rfl (.cons rfl (.cons rfl (.cons rfl (.cons rfl .nil))))) (.cons rfl .nil) ?_
        exact jn_loop (fun a w hi => ⟨i + 1, (by first | omega | (simp; omega)), (by omega), (Sub.inv ⟨(by repeat (first | exact SubS_nil | refine SubS_cons rfl (by first | rfl | (refine congrArg (fun z => SV.raw (Value.int .i64 z)) ?_; first | omega | (simp; done)) | (refine congrArg (SV.own _ _ _) ?_; first | omega | (simp; done)) | rfl) ?_)), (by repeat (first | exact SubH_nil | refine SubH_cons rfl (by first | rfl | exact congrArg (HB.mk (rInt .i64)) (by rw [Nat.zero_add]; exact fillO_set h7)) ?_))⟩ hi)⟩)
      · have h7 : ¬ i < N := by simpa using h7
        obtain rfl : N = i := by omega
        refine j_exit (je_seq (je_loop (je_blk (jn_seq (j_seq ?_)))))
        rw [fillO_n]
        refine j_seal (rt := rInt .i64) 31 6 (dropH 31 _) rfl rfl (by omega) (dropH_sub 31 _) (dropH_no 31 _) ?_
        rw [List.drop_zero, List.take_of_length_le (by omega)]
        refine j_region ?_
        refine jg_adr _ rfl _ rfl rfl (op_move (.base rfl)) ?_
        refine jg_adr _ rfl _ rfl rfl (op_len Try.underlying22 (.base rfl)) ?_
        refine jg_adr _ rfl _ rfl rfl (op_move (.base rfl)) ?_
        refine jg_adr _ rfl _ rfl rfl (op_call (alloc_k (by omega) (by omega)) (.cons (.base rfl) (.cons (.base rfl) .nil)) rfl rfl) ?_
        refine jg_adr _ rfl _ rfl rfl (op_move (.base rfl)) ?_
        refine jg_adr _ rfl _ rfl rfl (op_ext20 (.base rfl)) ?_
        refine jg_adr _ rfl _ rfl rfl (op_ext21 (.base rfl)) ?_
        refine jg_adr _ rfl _ rfl rfl (op_assign (.base rfl)) ?_
        refine jg_adr _ rfl _ rfl rfl (op_assign (.base rfl)) ?_
        refine jg_nil ?_
        refine jn_keep [0, 1, 8, 9] [] (.cons rfl (.cons rfl (.cons rfl (.cons rfl .nil)))) .nil ?_
        refine jn_seq (j_seq (j_seq ?_))
        refine j_region ?_
        refine jg_adr _ rfl _ rfl rfl (op_move (.base rfl)) ?_
        refine jg_adr _ rfl _ rfl rfl (op_neq (.base rfl) (.base rfl)) ?_
        refine jg_nil ?_
        refine jn_keep [0, 1, 8, 9, 49] [] (.cons rfl (.cons rfl (.cons rfl (.cons rfl (.cons rfl .nil))))) .nil ?_
        refine jn_seq ?_
        refine j_cond rfl (fun h12 => ?_) (fun h12 => ?_)
        · exact absurd h12 (by decide)
        · skip
          refine j_skip (jn_seq (j_seq ?_))
          refine j_region ?_
          refine jg_adr _ rfl _ rfl rfl (op_move (.base rfl)) ?_
          refine jg_os _ rfl (op_callO (cloneI_ok _ (by omega)) (.cons (.base rfl) .nil) rfl rfl rfl rfl) ?_
          refine jg_adr _ rfl _ rfl rfl (op_assign (.base rfl)) ?_
          refine jg_nil ?_
          refine jn_keep [1, 8, 10] [52] (.cons rfl (.cons rfl (.cons rfl .nil))) (.cons rfl .nil) ?_
          refine jn_seq (j_seq ?_)
          refine j_region ?_
          refine jg_adr _ rfl _ rfl rfl (op_move (.base rfl)) ?_
          refine jg_os _ rfl (op_turn0d turn_sort (.base rfl) rfl (by rfl) (by omega) (fun _ => rfl) rfl) ?_
          refine jg_nil ?_
          refine jn_keep [1, 8, 10] [52] (.cons rfl (.cons rfl (.cons rfl .nil))) (.cons rfl .nil) ?_
          refine jn_seq (j_seq ?_)
          refine j_region ?_
          refine jg_adr _ rfl _ rfl rfl (op_move (.base rfl)) ?_
          refine jg_os _ rfl (op_make Try.underlying22 ty3 z3 rfl by3 (.base rfl) (.base rfl) (by omega) (by unfold maxLen; omega) rfl rfl rfl) ?_
          refine jg_adr _ rfl _ rfl rfl (op_assign (.base rfl)) ?_
          refine jg_nil ?_
          refine jn_keep [8, 10, 11] [52, 56] (.cons rfl (.cons rfl (.cons rfl .nil))) (.cons rfl (.cons rfl .nil)) ?_
          refine jn_seq (j_seq (j_seq ?_))
          refine j_region ?_
          refine jg_adr _ rfl _ rfl rfl (op_move (.base rfl)) ?_
          refine jg_adr _ rfl _ rfl rfl (op_len Try.underlying22 (.base rfl)) ?_
          refine jg_adr _ rfl _ rfl rfl (op_move (.base rfl)) ?_
          refine jg_nil ?_
          refine jn_keep [10, 11, 57, 58, 59] [52, 56] (.cons rfl (.cons rfl (.cons rfl (.cons rfl (.cons rfl .nil))))) (.cons rfl (.cons rfl .nil)) ?_
          refine jn_seq (j_block ?_)
          refine j_loopp (ι := Nat) (fun k => ⟨[(10, .own 52 (rInt .i64).n (atK (szs l.length N) k) (l.length - atK (szs l.length N) k)), (11, .own 56 (rInt .i64).n (0) (N)), (57, .tv (rSlice (rInt .i64)) (szs l.length N)), (58, .raw (.int .i64 ((szs l.length N).length))), (59, .raw (.int .i64 ((k : Nat))))], [(52, ⟨rInt .i64, (srt l)⟩), (56, ⟨rInt .i64, fillS (szs l.length N) (srt l) k N⟩)]⟩) (fun k => k ≤ N) (fun k => N - k) 0 (Nat.zero_le _) (fun a w hi => (Sub.inv ⟨(by repeat (first | exact SubS_nil | refine SubS_cons rfl (by first | rfl | (refine congrArg (fun z => SV.raw (Value.int .i64 z)) ?_; first | omega | (simp; done)) | (refine congrArg (SV.own _ _ _) ?_; first | omega | (simp; done)) | rfl) ?_)), (by repeat (first | exact SubH_nil | refine SubH_cons rfl (by first | rfl | exact congrArg (HB.mk (rInt .i64)) ((fillS_0 (szs l.length N) (srt l) N).symm)) ?_))⟩ hi)) ?_
          rintro k hk1
          have hak := atK_le (m := l.length) (k := k) (show 1 ≤ N by omega)
          refine j_seq ?_
          refine j_region ?_
          refine jg_adr _ rfl _ rfl rfl (op_lss (.base rfl) (.base rfl)) ?_
          refine jg_nil ?_
          refine jn_keep [10, 11, 57, 58, 59, 60] [52, 56] (.cons rfl (.cons rfl (.cons rfl (.cons rfl (.cons rfl (.cons rfl .nil)))))) (.cons rfl (.cons rfl .nil)) ?_
          refine jn_seq (j_seq ?_)
          refine j_cond rfl (fun h18 => ?_) (fun h18 => ?_)
          · have h18 : k < N := by simp [hzl] at h18; exact h18
            have hz0 : 0 ≤ (szs l.length N)[k] := szs_nn _ (List.getElem_mem (by omega))
            have hzt := (Int.toNat_of_nonneg hz0).symm
            have hak1 := atK_succ (zs := (szs l.length N)) (k := k) (by omega)
            have hak2 := atK_le (m := l.length) (N := N) (k := k + 1) (by omega)
            rw [hak1] at hak2
            rw [fillS_row h18]
            have hzD : (szs l.length N).getD k 0 = (szs l.length N)[k] := by rw [List.getD_eq_getElem?_getD, List.getElem?_eq_getElem (by omega)]; rfl
            refine j_skip (jn_seq (j_seq (j_block (j_seq ?_))))
            refine j_region ?_
            refine jg_adr _ rfl _ rfl rfl (op_move (.base rfl)) ?_
            refine jg_adr _ rfl _ rfl rfl (op_index Try.underlying22 ty3 (.base rfl) (.base rfl) rfl (List.getElem?_eq_getElem (by first | omega | (simp; done) | (simp; omega) | (simp at hg; omega)))) ?_
            refine jg_adr _ rfl _ rfl rfl (op_load ty3 (.base rfl)) ?_
            refine jg_adr _ rfl _ rfl rfl (op_assign (.base rfl)) ?_
            refine jg_adr _ rfl _ rfl rfl (op_assign (.base rfl)) ?_
            refine jg_nil ?_
            refine jn_keep [10, 11, 12, 13, 57, 58, 59] [52, 56] (.cons rfl (.cons rfl (.cons rfl (.cons rfl (.cons rfl (.cons rfl (.cons rfl .nil))))))) (.cons rfl (.cons rfl .nil)) ?_
            refine jn_seq (j_seq (j_seq ?_))
            refine j_region ?_
            refine jg_adr _ rfl _ rfl rfl (op_move (.base rfl)) ?_
            refine jg_adr _ rfl _ rfl rfl (op_move (.base rfl)) ?_
            refine jg_adr _ rfl _ rfl rfl (op_oslice Try.underlying22 ty3 (.base rfl) rfl ⟨_, _, (.base rfl), hzt⟩ (by omega) (by omega)) ?_
            refine jg_adr _ rfl _ rfl rfl (op_len_own Try.underlying22 (.base rfl)) ?_
            refine jg_adr _ rfl _ rfl rfl (op_move (.base rfl)) ?_
            refine jg_nil ?_
            refine jn_keep [10, 11, 12, 13, 57, 58, 59, 66, 67, 68] [52, 56] (.cons rfl (.cons rfl (.cons rfl (.cons rfl (.cons rfl (.cons rfl (.cons rfl (.cons rfl (.cons rfl (.cons rfl .nil)))))))))) (.cons rfl (.cons rfl .nil)) ?_
            refine jn_seq (j_block ?_)
            refine j_loopp (ι := Nat) (fun j => ⟨[(10, .own 52 (rInt .i64).n (atK (szs l.length N) k) (l.length - atK (szs l.length N) k)), (11, .own 56 (rInt .i64).n (0) (N)), (12, .raw (.int .i64 ((k : Nat)))), (13, .raw (.int .i64 ((szs l.length N)[k]))), (57, .tv (rSlice (rInt .i64)) (szs l.length N)), (58, .raw (.int .i64 ((szs l.length N).length))), (59, .raw (.int .i64 ((k : Nat)))), (66, .own 52 (rInt .i64).n (atK (szs l.length N) k) ((szs l.length N)[k].toNat)), (67, .raw (.int .i64 (((szs l.length N)[k].toNat : Nat)))), (68, .raw (.int .i64 ((j : Nat))))], [(52, ⟨rInt .i64, (srt l)⟩), (56, ⟨rInt .i64, rowS (szs l.length N) (srt l) k (parK (szs l.length N) (srt l) k j) N⟩)]⟩) (fun j => j ≤ (szs l.length N)[k].toNat) (fun j => (szs l.length N)[k].toNat - j) 0 (Nat.zero_le _) (fun a w hi => (Sub.inv ⟨(by repeat (first | exact SubS_nil | refine SubS_cons rfl (by first | rfl | (refine congrArg (fun z => SV.raw (Value.int .i64 z)) ?_; first | omega | (simp; done)) | (refine congrArg (SV.own _ _ _) ?_; first | omega | (simp; done)) | rfl) ?_)), (by repeat (first | exact SubH_nil | refine SubH_cons rfl (by first | rfl | exact congrArg (HB.mk (rInt .i64)) (congrArg (fun q => rowS (szs l.length N) (srt l) k q N) (by simp [parK]))) ?_))⟩ hi)) ?_
            rintro j hj1
            have hpb := parK_bd (zs := (szs l.length N)) (k := k) (j := j) hsok
            have hrw := rowS_len (zs := (szs l.length N)) (r := (srt l)) (p := parK (szs l.length N) (srt l) k j) h18
            refine j_seq ?_
            refine j_region ?_
            refine jg_adr _ rfl _ rfl rfl (op_lss (.base rfl) (.base rfl)) ?_
            refine jg_nil ?_
            refine jn_keep [10, 11, 12, 13, 57, 58, 59, 66, 67, 68, 69] [52, 56] (.cons rfl (.cons rfl (.cons rfl (.cons rfl (.cons rfl (.cons rfl (.cons rfl (.cons rfl (.cons rfl (.cons rfl (.cons rfl .nil))))))))))) (.cons rfl (.cons rfl .nil)) ?_
            refine jn_seq (j_seq ?_)
            refine j_cond rfl (fun h21 => ?_) (fun h21 => ?_)
            · have h21 : j < (szs l.length N)[k].toNat := by have := of_decide_eq_true h21; omega
              have hgr := getL (l := (srt l)) (i := atK (szs l.length N) k + j) (by omega)
              have hv := hsok _ (List.getElem_mem (show atK (szs l.length N) k + j < (srt l).length by omega))
              have hvD : (srt l).getD (atK (szs l.length N) k + j) 0 = (srt l)[atK (szs l.length N) k + j]'(by omega) := by rw [List.getD_eq_getElem?_getD, List.getElem?_eq_getElem (by omega)]; rfl
              have hgs : (rowS (szs l.length N) (srt l) k (parK (szs l.length N) (srt l) k j) N)[0 + k]? = some (parK (szs l.length N) (srt l) k j) := by rw [Nat.zero_add]; exact rowS_at
              refine j_skip (jn_seq (j_seq (j_block (j_seq ?_))))
              refine j_region ?_
              refine jg_adr _ rfl _ rfl rfl (op_oindex Try.underlying22 ty3 (.base rfl) (.base rfl) rfl (by first | omega | (simp; done) | (simp; omega))) ?_
              refine jg_adr _ rfl _ rfl rfl (op_oload ty3 (.base rfl) rfl hgr (Lens.id _)) ?_
              refine jg_adr _ rfl _ rfl rfl (op_assign (.base rfl)) ?_
              refine jg_nil ?_
              refine jn_keep [10, 11, 12, 13, 15, 57, 58, 59, 66, 67, 68] [52, 56] (.cons rfl (.cons rfl (.cons rfl (.cons rfl (.cons rfl (.cons rfl (.cons rfl (.cons rfl (.cons rfl (.cons rfl (.cons rfl .nil))))))))))) (.cons rfl (.cons rfl .nil)) ?_
              refine jn_seq ?_
              refine j_region ?_
              refine jg_adr _ rfl _ rfl rfl (op_move (.base rfl)) ?_
              refine jg_adr _ rfl _ rfl rfl (op_move (.base rfl)) ?_
              refine jg_adr _ rfl _ rfl rfl (op_oindex Try.underlying22 ty3 (.base rfl) (.base rfl) rfl (by first | omega | (simp; done) | (simp; omega))) ?_
              refine jg_adr _ rfl _ rfl rfl (op_oload ty3 (.base rfl) rfl hgs (Lens.id _)) ?_
              refine jg_adr _ rfl _ rfl rfl (op_move (.base rfl)) ?_
              refine jg_adr _ rfl _ rfl rfl (op_add (.base rfl) (.base rfl) (w64 (by omega))) ?_
              refine jg_adr _ rfl _ rfl rfl (op_oindex Try.underlying22 ty3 (.base rfl) (.base rfl) rfl (by first | omega | (simp; done) | (simp; omega))) ?_
              refine jg_os _ rfl (op_ostore ty3 (.base rfl) rfl hgs (Lens.id _) (.raw (.base rfl) rfl)) ?_
              refine jg_nil ?_
              refine jn_keep [10, 11, 12, 13, 57, 58, 59, 66, 67, 68] [52, 56] (.cons rfl (.cons rfl (.cons rfl (.cons rfl (.cons rfl (.cons rfl (.cons rfl (.cons rfl (.cons rfl (.cons rfl .nil)))))))))) (.cons rfl (.cons rfl .nil)) ?_
              refine jn_blk (jn_seq ?_)
              refine j_region ?_
              refine jg_adr _ rfl _ rfl rfl (op_add (.base rfl) (.base rfl) (w64 (by omega))) ?_
              refine jg_adr _ rfl _ rfl rfl (op_move (.base rfl)) ?_
              refine jg_nil ?_
              refine jn_keep [10, 11, 12, 13, 57, 58, 59, 66, 67, 68] [52, 56] (.cons rfl (.cons rfl (.cons rfl (.cons rfl (.cons rfl (.cons rfl (.cons rfl (.cons rfl (.cons rfl (.cons rfl .nil)))))))))) (.cons rfl (.cons rfl .nil)) ?_
              exact jn_loop (fun a w hi => ⟨j + 1, (by first | omega | (simp; omega)), (by omega), (Sub.inv ⟨(by repeat (first | exact SubS_nil | refine SubS_cons rfl (by first | rfl | (refine congrArg (fun z => SV.raw (Value.int .i64 z)) ?_; first | omega | (simp; done)) | (refine congrArg (SV.own _ _ _) ?_; first | omega | (simp; done)) | rfl) ?_)), (by repeat (first | exact SubH_nil | refine SubH_cons rfl (by first | rfl | exact congrArg (HB.mk (rInt .i64)) (by rw [Nat.zero_add, rowS_set, parK_succ (by omega)])) ?_))⟩ hi)⟩)
            · have h21 : ¬ j < (szs l.length N)[k].toNat := by have := of_decide_eq_false h21; omega
              have hjj : j = (szs l.length N)[k].toNat := by omega
              have hseg : parK (szs l.length N) (srt l) k j = segK (szs l.length N) (srt l) k := by unfold parK segK; rw [hzD, hjj]
              have hown : SV.own 52 (rInt .i64).n (atK (szs l.length N) k + (szs l.length N)[k].toNat) (l.length - atK (szs l.length N) k - (szs l.length N)[k].toNat) = SV.own 52 (rInt .i64).n (atK (szs l.length N) (k + 1)) (l.length - atK (szs l.length N) (k + 1)) := by rw [hak1, Nat.sub_sub]
              refine j_exit (je_seq (je_loop (je_blk (jn_seq ?_))))
              refine j_region ?_
              refine jg_adr _ rfl _ rfl rfl (op_move (.base rfl)) ?_
              refine jg_adr _ rfl _ rfl rfl (op_move (.base rfl)) ?_
              refine jg_adr _ rfl _ rfl rfl (op_oslice Try.underlying22 ty3 (.base rfl) ⟨_, _, (.base rfl), hzt⟩ rfl (by omega) (by omega)) ?_
              refine jg_adr _ rfl _ rfl rfl (op_assign (.base rfl)) ?_
              refine jg_nil ?_
              refine jn_keep [10, 11, 57, 58, 59] [52, 56] (.cons rfl (.cons rfl (.cons rfl (.cons rfl (.cons rfl .nil))))) (.cons rfl (.cons rfl .nil)) ?_
              refine jn_blk (jn_seq ?_)
              refine j_region ?_
              refine jg_adr _ rfl _ rfl rfl (op_add (.base rfl) (.base rfl) (w64 (by omega))) ?_
              refine jg_adr _ rfl _ rfl rfl (op_move (.base rfl)) ?_
              refine jg_nil ?_
              refine jn_keep [10, 11, 57, 58, 59] [52, 56] (.cons rfl (.cons rfl (.cons rfl (.cons rfl (.cons rfl .nil))))) (.cons rfl (.cons rfl .nil)) ?_
              exact jn_loop (fun a w hi => ⟨k + 1, (by first | omega | (simp; omega)), (by omega), (Sub.inv ⟨(by repeat (first | exact SubS_nil | refine SubS_cons rfl (by first | rfl | (refine congrArg (fun z => SV.raw (Value.int .i64 z)) ?_; first | omega | (simp; done)) | (refine congrArg (SV.own _ _ _) ?_; first | omega | (simp; done)) | exact hown) ?_)), (by repeat (first | exact SubH_nil | refine SubH_cons rfl (by first | rfl | exact congrArg (HB.mk (rInt .i64)) ((congrArg (fun q => rowS (szs l.length N) (srt l) k q N) hseg).trans (rowS_fill h18))) ?_))⟩ hi)⟩)
          · have h18 : ¬ k < N := by simp [hzl] at h18; omega
            obtain rfl : N = k := by omega
            refine j_exit (je_seq (je_loop (je_blk (jn_seq (j_seq ?_)))))
            refine j_region ?_
            refine jg_adr _ rfl _ rfl rfl (op_move (.base rfl)) ?_
            refine jg_adr _ rfl _ rfl rfl (op_assign (.base rfl)) ?_
            refine jg_adr _ rfl _ rfl rfl (op_assign (.base rfl)) ?_
            refine jg_nil ?_
            refine jn_keep [4, 5] [56] (.cons rfl (.cons rfl .nil)) (.cons rfl .nil) ?_
            refine jn_seq (j_ret ?_)
            refine jr_seal (rt := rInt .i64) 56 4 (dropH 56 _) rfl rfl (by rw [fillS_len (Nat.le_refl _)]; omega) (dropH_sub 56 _) (dropH_no 56 _) ?_
            exact jr_fin2 Try.results19 (res_tmp rfl) (res_tmp rfl) ⟨rfl, rfl⟩ (svLI_eq (by unfold sharesR; rw [if_neg k1, if_neg k3]; simp only [Int.toNat_natCast]; rw [List.drop_zero, fillS_n, List.take_of_length_le (by rw [segL_len]; exact Nat.le_refl _)]))

theorem rshares_ok (l : List Int) (n : Int) : Ct Try.prog 20 [.tv (rSlice (rInt .i64)) l, .raw (.int .i64 n)] (svLI (sharesR l n)) := by
  refine ct_intro Try.func20 rfl rfl Try.ntmps20 rfl rfl ?_
  intro w0 ok0
  refine j_len 0 rfl (fun hl0 => ?_)
  refine j_seq ?_
  refine j_region ?_
  refine jg_adr _ rfl _ rfl rfl (op_assign (.base rfl)) ?_
  refine jg_adr _ rfl _ rfl rfl (op_assign (.base rfl)) ?_
  refine jg_nil ?_
  refine jn_keep [0, 1] [] (.cons rfl (.cons rfl .nil)) .nil ?_
  refine jn_seq (j_seq (j_seq ?_))
  refine j_region ?_
  refine jg_adr _ rfl _ rfl rfl (op_move (.base rfl)) ?_
  refine jg_adr _ rfl _ rfl rfl (op_len Try.underlying22 (.base rfl)) ?_
  refine jg_adr _ rfl _ rfl rfl (op_gtr (.base rfl) (.base rfl)) ?_
  refine jg_nil ?_
  refine jn_keep [0, 1, 18] [] (.cons rfl (.cons rfl (.cons rfl .nil))) .nil ?_
  refine jn_seq ?_
  refine j_cond rfl (fun h1 => ?_) (fun h1 => ?_)
  · have k1 : 4096 < l.length := by simp at h1; omega
    refine j_seq ?_
    refine j_region ?_
    refine jg_adr _ rfl _ rfl rfl (op_assign (.base rfl)) ?_
    refine jg_adr _ rfl _ rfl rfl (op_assign (.base rfl)) ?_
    refine jg_nil ?_
    refine jn_keep [4, 5] [] (.cons rfl (.cons rfl .nil)) .nil ?_
    refine jn_seq (j_ret (jr_seq ?_))
    exact jr_fin2 Try.results20 (res_nil rfl) (res_tmp rfl) ⟨rfl, rfl⟩ (svLI_eq (by unfold sharesR; rw [if_pos k1]))
  · have k1 : ¬ 4096 < l.length := by simp at h1; omega
    refine j_skip (jn_seq (j_seq (j_seq ?_)))
    refine j_region ?_
    refine jg_adr _ rfl _ rfl rfl (op_move (.base rfl)) ?_
    refine jg_adr _ rfl _ rfl rfl (op_lss (.base rfl) (.base rfl)) ?_
    refine jg_adr _ rfl _ rfl rfl (op_move (.base rfl)) ?_
    refine jg_gd _ _ _ _ _ _ rfl rfl rfl rfl rfl (fun hg => op_move (.base rfl)) ?_
    refine jg_gd _ _ _ _ _ _ rfl rfl rfl rfl rfl (fun hg => op_gtr (.gd rfl hg) (.base rfl)) ?_
    refine jg_adr _ rfl _ rfl rfl (op_pick_or (.base rfl) (.base rfl) rfl (by intro h; first | (rw [h]; rfl) | (rw [hg, h]; rfl) | (rw [h, hg]; rfl) | simp_all)) ?_
    refine jg_adr _ rfl _ rfl rfl (op_move (.base rfl)) ?_
    refine jg_gd _ _ _ _ _ _ rfl rfl rfl rfl rfl (fun hg => op_move (.base rfl)) ?_
    refine jg_gd _ _ _ _ _ _ rfl rfl rfl rfl rfl (fun hg => op_call (rwithin_ok _) (.cons (.gd rfl hg) .nil) rfl rfl) ?_
    refine jg_gd _ _ _ _ _ _ rfl rfl rfl rfl rfl (fun hg => op_not (.gd rfl hg)) ?_
    refine jg_adr _ rfl _ rfl rfl (op_pick_or (.base rfl) (.base rfl) rfl (by intro h; first | (rw [h]; rfl) | (rw [hg, h]; rfl) | (rw [h, hg]; rfl) | simp_all)) ?_
    refine jg_nil ?_
    refine jn_keep [0, 1, 29] [] (.cons rfl (.cons rfl (.cons rfl .nil))) .nil ?_
    refine jn_seq ?_
    refine j_cond rfl (fun h3 => ?_) (fun h3 => ?_)
    · have k3 : (n < 1 ∨ 64 < n) ∨ okL l = false := by simpa using h3
      refine j_seq ?_
      refine j_region ?_
      refine jg_adr _ rfl _ rfl rfl (op_assign (.base rfl)) ?_
      refine jg_adr _ rfl _ rfl rfl (op_assign (.base rfl)) ?_
      refine jg_nil ?_
      refine jn_keep [4, 5] [] (.cons rfl (.cons rfl .nil)) .nil ?_
      refine jn_seq (j_ret (jr_seq ?_))
      exact jr_fin2 Try.results20 (res_nil rfl) (res_tmp rfl) ⟨rfl, rfl⟩ (svLI_eq (by unfold sharesR; rw [if_neg k1, if_pos k3]))
    · have k3 : ¬ ((n < 1 ∨ 64 < n) ∨ okL l = false) := by simpa using h3
      have hol : okL l = true := by simpa using (not_or.1 k3).2
      have k4 := (not_or.1 k3).1
      have k4 : 1 ≤ n ∧ n ≤ 64 := by omega
      obtain ⟨N, rfl⟩ : ∃ N : Nat, n = (N : Int) := ⟨n.toNat, by omega⟩
      have hzl := szs_len l.length N
      have hrl := srt_len l
      have hsok := srt_ok hol
      have honl : (onesL N).length = N := by simp [onesL]
      refine j_skip (jn_seq (j_seq ?_))
      refine j_region ?_
      refine jg_adr _ rfl _ rfl rfl (op_assign (.base rfl)) ?_
      refine jg_nil ?_
      refine jn_keep [0, 1, 6] [] (.cons rfl (.cons rfl (.cons rfl .nil))) .nil ?_
      refine jn_seq (j_seq (j_seq ?_))
      refine j_region ?_
      refine jg_adr _ rfl _ rfl rfl (op_assign (.base rfl)) ?_
      refine jg_nil ?_
      refine jn_keep [0, 1, 6, 7] [] (.cons rfl (.cons rfl (.cons rfl (.cons rfl .nil)))) .nil ?_
      refine jn_seq (j_block ?_)
      refine j_vac 70 6 (rInt .i64) rfl rfl rfl ?_
      refine j_loopp (ι := Nat) (fun i => ⟨[(0, .tv (rSlice (rInt .i64)) l), (1, .raw (.int .i64 ((N : Int)))), (6, .own 70 (rInt .i64).n (0) ((onesL i).length)), (7, .raw (.int .i64 ((i : Nat))))], [(70, ⟨rInt .i64, onesL i⟩)]⟩) (fun i => i ≤ N) (fun i => N - i) 0 (Nat.zero_le _) (fun a w hi => (Sub.inv ⟨(by repeat (first | exact SubS_nil | refine SubS_cons rfl (by first | rfl | (simp; done) | assumption) ?_)), (by repeat (first | exact SubH_nil | refine SubH_cons rfl (by first | rfl | (simp; done) | assumption) ?_))⟩ hi)) ?_
      rintro i hi1
      have hol1 : (onesL i).length = i := by simp [onesL]
      refine j_seq (j_seq ?_)
      refine j_region ?_
      refine jg_adr _ rfl _ rfl rfl (op_move (.base rfl)) ?_
      refine jg_adr _ rfl _ rfl rfl (op_move (.base rfl)) ?_
      refine jg_adr _ rfl _ rfl rfl (op_lss (.base rfl) (.base rfl)) ?_
      refine jg_nil ?_
      refine jn_keep [0, 1, 6, 7, 32] [70] (.cons rfl (.cons rfl (.cons rfl (.cons rfl (.cons rfl .nil))))) (.cons rfl .nil) ?_
      refine jn_seq ?_
      refine j_cond rfl (fun h7 => ?_) (fun h7 => ?_)
      · have h7 : i < N := by simpa using h7
        refine j_skip (jn_seq (j_seq (j_block ?_)))
        refine j_region ?_
        refine jg_adr _ rfl _ rfl rfl (op_move (.base rfl)) ?_
        refine jg_adr _ rfl _ rfl rfl (op_bslice (rt := (rInt .i64)) Try.underlying22 ty3 z3 rfl (.cons (.raw (.base rfl) rfl) .nil) rfl rfl) ?_
        refine jg_os _ rfl (op_append [0, 1, 7] Try.underlying22 ty3 z3 rfl by3 (.base rfl) rfl (by (try simp); try omega) (.tv (.base rfl)) (by unfold maxLen; (try simp); try omega) (by (try simp); try omega) rfl (.cons rfl (.cons rfl (.cons rfl .nil))) rfl) ?_
        refine jg_adr _ rfl _ rfl rfl (op_assign (.base rfl)) ?_
        refine jg_nil ?_
        refine jn_keep [0, 1, 6, 7] [70] (.cons rfl (.cons rfl (.cons rfl (.cons rfl .nil)))) (.cons rfl .nil) ?_
        refine jn_blk (jn_seq ?_)
        refine j_region ?_
        refine jg_adr _ rfl _ rfl rfl (op_move (.base rfl)) ?_
        refine jg_adr _ rfl _ rfl rfl (op_add (.base rfl) (.base rfl) (w64 (by omega))) ?_
        refine jg_adr _ rfl _ rfl rfl (op_assign (.base rfl)) ?_
        refine jg_nil ?_
        refine jn_keep [0, 1, 6, 7] [70] (.cons rfl (.cons rfl (.cons rfl (.cons rfl .nil)))) (.cons rfl .nil) ?_
        exact jn_loop (fun a w hi => ⟨i + 1, (by first | omega | (simp; omega)), (by omega), (Sub.inv ⟨(by repeat (first | exact SubS_nil | refine SubS_cons rfl (by first | rfl | (refine congrArg (fun z => SV.raw (Value.int .i64 z)) ?_; first | omega | (simp; done)) | (refine congrArg (SV.own _ _ _) ?_; first | omega | (simp; done)) | exact congrArg (SV.own 70 (rInt .i64).n 0) (by simp [onesL])) ?_)), (by repeat (first | exact SubH_nil | refine SubH_cons rfl (by first | rfl | exact congrArg (HB.mk (rInt .i64)) (by rw [onesL_succ, List.drop_zero, List.take_of_length_le (Nat.le_refl _)])) ?_))⟩ hi)⟩)
      · have h7 : ¬ i < N := by simpa using h7
        obtain rfl : N = i := by omega
        refine j_exit (je_seq (je_loop (je_blk (jn_seq (j_seq ?_)))))
        refine j_seal (rt := rInt .i64) 70 6 (dropH 70 _) rfl rfl (by omega) (dropH_sub 70 _) (dropH_no 70 _) ?_
        rw [List.drop_zero, List.take_of_length_le (by omega)]
        refine j_region ?_
        refine jg_adr _ rfl _ rfl rfl (op_move (.base rfl)) ?_
        refine jg_adr _ rfl _ rfl rfl (op_len Try.underlying22 (.base rfl)) ?_
        refine jg_adr _ rfl _ rfl rfl (op_move (.base rfl)) ?_
        refine jg_adr _ rfl _ rfl rfl (op_call (ralloc_k (by omega) (by omega)) (.cons (.base rfl) (.cons (.base rfl) .nil)) rfl rfl) ?_
        refine jg_adr _ rfl _ rfl rfl (op_move (.base rfl)) ?_
        refine jg_adr _ rfl _ rfl rfl (op_ext20 (.base rfl)) ?_
        refine jg_adr _ rfl _ rfl rfl (op_ext21 (.base rfl)) ?_
        refine jg_adr _ rfl _ rfl rfl (op_assign (.base rfl)) ?_
        refine jg_adr _ rfl _ rfl rfl (op_assign (.base rfl)) ?_
        refine jg_nil ?_
        refine jn_keep [0, 1, 8] [] (.cons rfl (.cons rfl (.cons rfl .nil))) .nil ?_
        refine jn_seq (j_seq ?_)
        refine j_region ?_
        refine jg_adr _ rfl _ rfl rfl (op_move (.base rfl)) ?_
        refine jg_adr _ rfl _ rfl rfl (op_call (sorted_ok _ (by omega)) (.cons (.base rfl) .nil) rfl rfl) ?_
        refine jg_adr _ rfl _ rfl rfl (op_assign (.base rfl)) ?_
        refine jg_nil ?_
        refine jn_keep [1, 8, 10] [] (.cons rfl (.cons rfl (.cons rfl .nil))) .nil ?_
        refine jn_seq (j_seq ?_)
        refine j_region ?_
        refine jg_adr _ rfl _ rfl rfl (op_assign (.base rfl)) ?_
        refine jg_nil ?_
        refine jn_keep [1, 8, 10, 11] [] (.cons rfl (.cons rfl (.cons rfl (.cons rfl .nil)))) .nil ?_
        refine jn_seq (j_seq ?_)
        refine j_region ?_
        refine jg_adr _ rfl _ rfl rfl (op_assign (.base rfl)) ?_
        refine jg_nil ?_
        refine jn_keep [1, 8, 10, 11, 12] [] (.cons rfl (.cons rfl (.cons rfl (.cons rfl (.cons rfl .nil))))) .nil ?_
        refine jn_seq (j_seq (j_seq ?_))
        refine j_region ?_
        refine jg_adr _ rfl _ rfl rfl (op_assign (.base rfl)) ?_
        refine jg_nil ?_
        refine jn_keep [1, 8, 10, 11, 12, 13] [] (.cons rfl (.cons rfl (.cons rfl (.cons rfl (.cons rfl (.cons rfl .nil)))))) .nil ?_
        refine jn_seq (j_block ?_)
        refine j_vac 71 11 (rInt .i64) rfl rfl rfl ?_
        refine j_loopp (ι := Nat) (fun k => ⟨[(1, .raw (.int .i64 ((N : Int)))), (8, .tv (rSlice (rInt .i64)) (szs l.length N)), (10, .tv (rSlice (rInt .i64)) (srt l)), (11, .own 71 (rInt .i64).n (0) ((segL (szs l.length N) (srt l) k).length)), (12, .raw (.int .i64 ((atK (szs l.length N) k : Nat)))), (13, .raw (.int .i64 ((k : Nat))))], [(71, ⟨rInt .i64, segL (szs l.length N) (srt l) k⟩)]⟩) (fun k => k ≤ N) (fun k => N - k) 0 (Nat.zero_le _) (fun a w hi => (Sub.inv ⟨(by repeat (first | exact SubS_nil | refine SubS_cons rfl (by first | rfl | (simp; done) | assumption) ?_)), (by repeat (first | exact SubH_nil | refine SubH_cons rfl (by first | rfl | (simp; done) | assumption) ?_))⟩ hi)) ?_
        rintro k hk1
        have hsl := segL_len (szs l.length N) (srt l) k
        have hak := atK_le (m := l.length) (k := k) (show 1 ≤ N by omega)
        refine j_seq (j_seq ?_)
        refine j_region ?_
        refine jg_adr _ rfl _ rfl rfl (op_move (.base rfl)) ?_
        refine jg_adr _ rfl _ rfl rfl (op_move (.base rfl)) ?_
        refine jg_adr _ rfl _ rfl rfl (op_lss (.base rfl) (.base rfl)) ?_
        refine jg_nil ?_
        refine jn_keep [1, 8, 10, 11, 12, 13, 49] [71] (.cons rfl (.cons rfl (.cons rfl (.cons rfl (.cons rfl (.cons rfl (.cons rfl .nil))))))) (.cons rfl .nil) ?_
        refine jn_seq ?_
        refine j_cond rfl (fun h15 => ?_) (fun h15 => ?_)
        · have h15 : k < N := by simpa using h15
          have hz0 : 0 ≤ (szs l.length N)[k] := szs_nn _ (List.getElem_mem (by omega))
          have hak1 := atK_succ (zs := (szs l.length N)) (k := k) (by omega)
          have hak2 := atK_le (m := l.length) (N := N) (k := k + 1) (by omega)
          rw [hak1] at hak2
          have hzD : (szs l.length N).getD k 0 = (szs l.length N)[k] := by rw [List.getD_eq_getElem?_getD, List.getElem?_eq_getElem (by omega)]; rfl
          refine j_skip (jn_seq (j_seq (j_block (j_seq ?_))))
          refine j_region ?_
          refine jg_adr _ rfl _ rfl rfl (op_assign (.base rfl)) ?_
          refine jg_nil ?_
          refine jn_keep [1, 8, 10, 11, 12, 13, 14] [71] (.cons rfl (.cons rfl (.cons rfl (.cons rfl (.cons rfl (.cons rfl (.cons rfl .nil))))))) (.cons rfl .nil) ?_
          refine jn_seq (j_seq (j_seq ?_))
          refine j_region ?_
          refine jg_adr _ rfl _ rfl rfl (op_assign (.base rfl)) ?_
          refine jg_nil ?_
          refine jn_keep [1, 8, 10, 11, 12, 13, 14, 15] [71] (.cons rfl (.cons rfl (.cons rfl (.cons rfl (.cons rfl (.cons rfl (.cons rfl (.cons rfl .nil)))))))) (.cons rfl .nil) ?_
          refine jn_seq (j_block ?_)
          refine j_loopp (ι := Nat) (fun j => ⟨[(1, .raw (.int .i64 ((N : Int)))), (8, .tv (rSlice (rInt .i64)) (szs l.length N)), (10, .tv (rSlice (rInt .i64)) (srt l)), (11, .own 71 (rInt .i64).n (0) ((segL (szs l.length N) (srt l) k).length)), (12, .raw (.int .i64 ((atK (szs l.length N) k + j : Nat)))), (13, .raw (.int .i64 ((k : Nat)))), (14, .raw (.int .i64 (parK (szs l.length N) (srt l) k j))), (15, .raw (.int .i64 ((j : Nat))))], [(71, ⟨rInt .i64, segL (szs l.length N) (srt l) k⟩)]⟩) (fun j => j ≤ (szs l.length N)[k].toNat) (fun j => (szs l.length N)[k].toNat - j) 0 (Nat.zero_le _) (fun a w hi => (Sub.inv ⟨(by repeat (first | exact SubS_nil | refine SubS_cons rfl (by first | rfl | (refine congrArg (fun z => SV.raw (Value.int .i64 z)) ?_; first | omega | (simp; done)) | (refine congrArg (SV.own _ _ _) ?_; first | omega | (simp; done)) | exact congrArg (fun z => SV.raw (Value.int .i64 z)) (by simp [parK])) ?_)), (by repeat (first | exact SubH_nil | refine SubH_cons rfl (by first | rfl | exact congrArg (HB.mk (rInt .i64)) (rfl)) ?_))⟩ hi)) ?_
          rintro j hj1
          have hpb := parK_bd (zs := (szs l.length N)) (k := k) (j := j) hsok
          refine j_seq (j_seq ?_)
          refine j_region ?_
          refine jg_adr _ rfl _ rfl rfl (op_move (.base rfl)) ?_
          refine jg_adr _ rfl _ rfl rfl (op_move (.base rfl)) ?_
          refine jg_adr _ rfl _ rfl rfl (op_move (.base rfl)) ?_
          refine jg_adr _ rfl _ rfl rfl (op_index Try.underlying22 ty3 (.base rfl) (.base rfl) rfl (List.getElem?_eq_getElem (by first | omega | (simp; done) | (simp; omega) | (simp at hg; omega)))) ?_
          refine jg_adr _ rfl _ rfl rfl (op_load ty3 (.base rfl)) ?_
          refine jg_adr _ rfl _ rfl rfl (op_lss (.base rfl) (.base rfl)) ?_
          refine jg_nil ?_
          refine jn_keep [1, 8, 10, 11, 12, 13, 14, 15, 57] [71] (.cons rfl (.cons rfl (.cons rfl (.cons rfl (.cons rfl (.cons rfl (.cons rfl (.cons rfl (.cons rfl .nil))))))))) (.cons rfl .nil) ?_
          refine jn_seq ?_
          refine j_cond rfl (fun h19 => ?_) (fun h19 => ?_)
          · have h19 : (j : Int) < (szs l.length N)[k] := by simpa using h19
            have hlt : atK (szs l.length N) k + j < (srt l).length := by omega
            have hv := hsok _ (List.getElem_mem hlt)
            have hps : parK (szs l.length N) (srt l) k j + (srt l)[atK (szs l.length N) k + j] = parK (szs l.length N) (srt l) k (j + 1) := by rw [parK_succ hlt, List.getD_eq_getElem?_getD, List.getElem?_eq_getElem hlt]; rfl
            refine j_skip (jn_seq (j_seq (j_block (j_seq ?_))))
            refine j_region ?_
            refine jg_adr _ rfl _ rfl rfl (op_move (.base rfl)) ?_
            refine jg_adr _ rfl _ rfl rfl (op_move (.base rfl)) ?_
            refine jg_adr _ rfl _ rfl rfl (op_move (.base rfl)) ?_
            refine jg_adr _ rfl _ rfl rfl (op_index Try.underlying22 ty3 (.base rfl) (.base rfl) rfl (List.getElem?_eq_getElem (by first | omega | (simp; done) | (simp; omega) | (simp at hg; omega)))) ?_
            refine jg_adr _ rfl _ rfl rfl (op_load ty3 (.base rfl)) ?_
            refine jg_adr _ rfl _ rfl rfl (op_add (.base rfl) (.base rfl) (w64 (by omega))) ?_
            refine jg_adr _ rfl _ rfl rfl (op_assign (.base rfl)) ?_
            refine jg_nil ?_
            refine jn_keep [1, 8, 10, 11, 12, 13, 14, 15] [71] (.cons rfl (.cons rfl (.cons rfl (.cons rfl (.cons rfl (.cons rfl (.cons rfl (.cons rfl .nil)))))))) (.cons rfl .nil) ?_
            refine jn_seq ?_
            refine j_region ?_
            refine jg_adr _ rfl _ rfl rfl (op_move (.base rfl)) ?_
            refine jg_adr _ rfl _ rfl rfl (op_add (.base rfl) (.base rfl) (w64 (by omega))) ?_
            refine jg_adr _ rfl _ rfl rfl (op_assign (.base rfl)) ?_
            refine jg_nil ?_
            refine jn_keep [1, 8, 10, 11, 12, 13, 14, 15] [71] (.cons rfl (.cons rfl (.cons rfl (.cons rfl (.cons rfl (.cons rfl (.cons rfl (.cons rfl .nil)))))))) (.cons rfl .nil) ?_
            refine jn_blk (jn_seq ?_)
            refine j_region ?_
            refine jg_adr _ rfl _ rfl rfl (op_move (.base rfl)) ?_
            refine jg_adr _ rfl _ rfl rfl (op_add (.base rfl) (.base rfl) (w64 (by omega))) ?_
            refine jg_adr _ rfl _ rfl rfl (op_assign (.base rfl)) ?_
            refine jg_nil ?_
            refine jn_keep [1, 8, 10, 11, 12, 13, 14, 15] [71] (.cons rfl (.cons rfl (.cons rfl (.cons rfl (.cons rfl (.cons rfl (.cons rfl (.cons rfl .nil)))))))) (.cons rfl .nil) ?_
            exact jn_loop (fun a w hi => ⟨j + 1, (by first | omega | (simp; omega)), (by omega), (Sub.inv ⟨(by repeat (first | exact SubS_nil | refine SubS_cons rfl (by first | rfl | (refine congrArg (fun z => SV.raw (Value.int .i64 z)) ?_; first | omega | (simp; done)) | (refine congrArg (SV.own _ _ _) ?_; first | omega | (simp; done)) | exact congrArg (fun z => SV.raw (Value.int .i64 z)) hps) ?_)), (by repeat (first | exact SubH_nil | refine SubH_cons rfl (by first | rfl | exact congrArg (HB.mk (rInt .i64)) (rfl)) ?_))⟩ hi)⟩)
          · have h19 : ¬ (j : Int) < (szs l.length N)[k] := by simpa using h19
            have hjj : j = (szs l.length N)[k].toNat := by omega
            have hseg : parK (szs l.length N) (srt l) k j = segK (szs l.length N) (srt l) k := by unfold parK segK; rw [hzD, hjj]
            refine j_exit (je_seq (je_loop (je_blk (jn_seq ?_))))
            refine j_region ?_
            refine jg_adr _ rfl _ rfl rfl (op_move (.base rfl)) ?_
            refine jg_adr _ rfl _ rfl rfl (op_move (.base rfl)) ?_
            refine jg_adr _ rfl _ rfl rfl (op_bslice (rt := (rInt .i64)) Try.underlying22 ty3 z3 rfl (.cons (.raw (.base rfl) rfl) .nil) rfl rfl) ?_
            refine jg_os _ rfl (op_append [1, 8, 10, 12, 13] Try.underlying22 ty3 z3 rfl by3 (.base rfl) rfl (by (try simp); try omega) (.tv (.base rfl)) (by unfold maxLen; (try simp); try omega) (by (try simp); try omega) rfl (.cons rfl (.cons rfl (.cons rfl (.cons rfl (.cons rfl .nil))))) rfl) ?_
            refine jg_adr _ rfl _ rfl rfl (op_assign (.base rfl)) ?_
            refine jg_nil ?_
            refine jn_keep [1, 8, 10, 11, 12, 13] [71] (.cons rfl (.cons rfl (.cons rfl (.cons rfl (.cons rfl (.cons rfl .nil)))))) (.cons rfl .nil) ?_
            refine jn_blk (jn_seq ?_)
            refine j_region ?_
            refine jg_adr _ rfl _ rfl rfl (op_move (.base rfl)) ?_
            refine jg_adr _ rfl _ rfl rfl (op_add (.base rfl) (.base rfl) (w64 (by omega))) ?_
            refine jg_adr _ rfl _ rfl rfl (op_assign (.base rfl)) ?_
            refine jg_nil ?_
            refine jn_keep [1, 8, 10, 11, 12, 13] [71] (.cons rfl (.cons rfl (.cons rfl (.cons rfl (.cons rfl (.cons rfl .nil)))))) (.cons rfl .nil) ?_
            exact jn_loop (fun a w hi => ⟨k + 1, (by first | omega | (simp; omega)), (by omega), (Sub.inv ⟨(by repeat (first | exact SubS_nil | refine SubS_cons rfl (by first | rfl | (refine congrArg (fun z => SV.raw (Value.int .i64 z)) ?_; first | omega | (simp; done)) | (refine congrArg (SV.own _ _ _) ?_; first | omega | (simp; done)) | exact congrArg (SV.own 71 (rInt .i64).n 0) (by rw [segL_len, segL_len]; simp)) ?_)), (by repeat (first | exact SubH_nil | refine SubH_cons rfl (by first | rfl | exact congrArg (HB.mk (rInt .i64)) (by rw [segL_succ, List.drop_zero, List.take_of_length_le (Nat.le_refl _), hseg])) ?_))⟩ hi)⟩)
        · have h15 : ¬ k < N := by simpa using h15
          obtain rfl : N = k := by omega
          refine j_exit (je_seq (je_loop (je_blk (jn_seq (j_seq ?_)))))
          refine j_region ?_
          refine jg_adr _ rfl _ rfl rfl (op_move (.base rfl)) ?_
          refine jg_adr _ rfl _ rfl rfl (op_assign (.base rfl)) ?_
          refine jg_adr _ rfl _ rfl rfl (op_assign (.base rfl)) ?_
          refine jg_nil ?_
          refine jn_keep [4, 5] [71] (.cons rfl (.cons rfl .nil)) (.cons rfl .nil) ?_
          refine jn_seq (j_ret ?_)
          refine jr_seal (rt := rInt .i64) 71 4 (dropH 71 _) rfl rfl (by first | omega | (simp; done) | (simp; omega)) (dropH_sub 71 _) (dropH_no 71 _) ?_
          exact jr_fin2 Try.results20 (res_tmp rfl) (res_tmp rfl) ⟨rfl, rfl⟩ (svLI_eq (by unfold sharesR; rw [if_neg k1, if_neg k3]; simp only [Int.toNat_natCast]; rw [List.drop_zero, List.take_of_length_le (Nat.le_refl _)]))

end Go.Proofs.Ytfmoolclokffjaa
