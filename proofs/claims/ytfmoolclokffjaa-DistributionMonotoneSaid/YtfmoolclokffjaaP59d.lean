import Derived.Test.YtfmoolclokffjaaP59c
namespace Go.Proofs.Ytfmoolclokffjaa
open Go.Eng
set_option maxRecDepth 100000
set_option maxHeartbeats 4000000
set_option linter.unusedVariables false
set_option linter.unusedSimpArgs false


theorem pw_succ {bd : List Int} {k : Nat} (h0 : 1 ≤ k) (h : k < bd.length) (hp : (bd.take k).Pairwise (· < ·)) (hlt : bd[k - 1] < bd[k]) : (bd.take (k + 1)).Pairwise (· < ·) := by
  rw [List.take_succ_eq_append_getElem h]
  refine List.pairwise_append.2 ⟨hp, by simp, fun a ha b hb => ?_⟩
  obtain rfl := List.mem_singleton.1 hb
  obtain ⟨j, hj, rfl⟩ := List.mem_take_iff_getElem.1 ha
  rcases Nat.lt_or_ge j (k - 1) with q | q
  · have := List.pairwise_iff_getElem.1 hp j (k - 1) (by simp; omega) (by simp; omega) q
    simp only [List.getElem_take] at this
    omega
  · obtain rfl : j = k - 1 := by omega
    exact hlt
theorem pw_not {bd : List Int} {k : Nat} (h0 : 1 ≤ k) (h : k < bd.length) (hle : bd[k] ≤ bd[k - 1]) : ¬ bd.Pairwise (· < ·) := by
  intro hp
  have := List.pairwise_iff_getElem.1 hp (k - 1) k (by omega) h (by omega)
  omega
theorem pw_one (bd : List Int) : (bd.take 1).Pairwise (· < ·) := by cases bd <;> simp
theorem cntB_0 (lo hi : Int) (l : List Int) : cntB lo hi (l.take 0) = (lo, hi, 0, 0) := by simp [cntB]
theorem cntB_t {lo hi : Int} {l : List Int} {k : Nat} (h : k < l.length) (h2 : inH lo hi l[k] = true) : cntB lo hi (l.take (k + 1)) = (lo, hi, (cntB lo hi (l.take k)).2.2.1 + 1, (cntB lo hi (l.take k)).2.2.2 + l[k]) := by
  unfold cntB
  rw [List.take_succ_eq_append_getElem h, List.filter_append, List.filter_cons_of_pos h2]
  simp
theorem cntB_f {lo hi : Int} {l : List Int} {k : Nat} (h : k < l.length) (h2 : inH lo hi l[k] = false) : cntB lo hi (l.take (k + 1)) = cntB lo hi (l.take k) := by
  unfold cntB
  rw [List.take_succ_eq_append_getElem h, List.filter_append, List.filter_cons_of_neg (by rw [h2]; simp)]
  simp
theorem cntB_bd {lo hi : Int} : ∀ (l : List Int), (∀ v ∈ l, -1000000000000000 ≤ v ∧ v ≤ 1000000000000000) → (0 ≤ (cntB lo hi l).2.2.1 ∧ (cntB lo hi l).2.2.1 ≤ l.length) ∧ -(l.length * 1000000000000000 : Int) ≤ (cntB lo hi l).2.2.2 ∧ (cntB lo hi l).2.2.2 ≤ l.length * 1000000000000000
  | [], _ => by simp [cntB]
  | v :: l, h => by
    have ih := cntB_bd (lo := lo) (hi := hi) l (fun w hw => h w (by simp [hw]))
    have hv := h v (by simp)
    unfold cntB at ih ⊢
    by_cases c : inH lo hi v = true
    · rw [List.filter_cons_of_pos c]
      simp only [List.length_cons, List.sum_cons] at ih ⊢
      omega
    · rw [List.filter_cons_of_neg c]
      simp only [List.length_cons] at ih ⊢
      omega
theorem fillH_get0 {bd : List Int} {i j : Nat} (h : j < bd.length + 1) : (fillH bd i)[0 + j]? = some (if j = 0 then -1000000000000000 else if j ≤ i then bd.getD (j - 1) 0 else 0, if j = bd.length then 1000000000000001 else if j < i then bd.getD j 0 else 0, 0, 0) := by
  rw [Nat.zero_add]; exact fillH_get h
def hcK (bd l : List Int) (i : Nat) : List TBucket := (List.range i).map fun i => cntB (loAt bd i) (hiAt bd i) l
theorem hcK_len (bd l : List Int) (i : Nat) : (hcK bd l i).length = i := by simp [hcK]
theorem hcK_succ (bd l : List Int) (i : Nat) : hcK bd l (i + 1) = hcK bd l i ++ [cntB (loAt bd i) (hiAt bd i) l] := by simp [hcK, List.range_succ]
theorem hcK_n (bd l : List Int) : hcK bd l (bd.length + 1) = histC bd l := rfl

theorem hist_ok (l bd : List Int) : Ct Try.prog 14 [.tv (rSlice (rInt .i64)) l, .tv (rSlice (rInt .i64)) bd] (svBI (histR l bd)) := by
  refine ct_intro Try.func14 rfl rfl Try.ntmps14 rfl rfl ?_
  intro w0 ok0
  refine j_len 0 rfl (fun hl0 => ?_)
  refine j_len 1 rfl (fun hl1 => ?_)
  refine j_seq ?_
  refine j_region ?_
  refine jg_adr _ rfl _ rfl rfl (op_assign (.base rfl)) ?_
  refine jg_adr _ rfl _ rfl rfl (op_assign (.base rfl)) ?_
  refine jg_nil ?_
  refine jn_keep [0, 1] [] (.cons rfl (.cons rfl .nil)) .nil ?_
  refine jn_seq (j_seq (j_seq ?_))
  refine j_region ?_
  refine jg_adr _ rfl _ rfl rfl (op_move (.base rfl)) ?_
  refine jg_adr _ rfl _ rfl rfl (op_len Try.underlying22 (.base rfl)) ?_
  refine jg_adr _ rfl _ rfl rfl (op_gtr (.base rfl) (.base rfl)) ?_
  refine jg_adr _ rfl _ rfl rfl (op_move (.base rfl)) ?_
  refine jg_gd _ _ _ _ _ _ rfl rfl rfl rfl rfl (fun hg => op_move (.base rfl)) ?_
  refine jg_gd _ _ _ _ _ _ rfl rfl rfl rfl rfl (fun hg => op_len Try.underlying22 (.gd rfl hg)) ?_
  refine jg_gd _ _ _ _ _ _ rfl rfl rfl rfl rfl (fun hg => op_gtr (.gd rfl hg) (.base rfl)) ?_
  refine jg_adr _ rfl _ rfl rfl (op_pick_or (.base rfl) (.base rfl) rfl (by intro h; first | (rw [h]; rfl) | (rw [hg, h]; rfl) | (rw [h, hg]; rfl) | simp_all)) ?_
  refine jg_nil ?_
  refine jn_keep [0, 1, 19] [] (.cons rfl (.cons rfl (.cons rfl .nil))) .nil ?_
  refine jn_seq ?_
  refine j_cond rfl (fun h1 => ?_) (fun h1 => ?_)
  · have k1 : 4096 < l.length ∨ 64 < bd.length := by simp at h1; omega
    refine j_seq ?_
    refine j_region ?_
    refine jg_adr _ rfl _ rfl rfl (op_assign (.base rfl)) ?_
    refine jg_adr _ rfl _ rfl rfl (op_assign (.base rfl)) ?_
    refine jg_nil ?_
    refine jn_keep [4, 5] [] (.cons rfl (.cons rfl .nil)) .nil ?_
    refine jn_seq (j_ret (jr_seq ?_))
    exact jr_fin2 Try.results14 (res_nil rfl) (res_tmp rfl) ⟨rfl, rfl⟩ (svBI_eq (by unfold histR; rw [if_pos k1]))
  · have k1 : ¬ (4096 < l.length ∨ 64 < bd.length) := by simp at h1; omega
    refine j_skip (jn_seq (j_seq (j_seq ?_)))
    refine j_region ?_
    refine jg_adr _ rfl _ rfl rfl (op_move (.base rfl)) ?_
    refine jg_adr _ rfl _ rfl rfl (op_call (within_ok _) (.cons (.base rfl) .nil) rfl rfl) ?_
    refine jg_adr _ rfl _ rfl rfl (op_not (.base rfl)) ?_
    refine jg_adr _ rfl _ rfl rfl (op_move (.base rfl)) ?_
    refine jg_gd _ _ _ _ _ _ rfl rfl rfl rfl rfl (fun hg => op_move (.base rfl)) ?_
    refine jg_gd _ _ _ _ _ _ rfl rfl rfl rfl rfl (fun hg => op_call (within_ok _) (.cons (.gd rfl hg) .nil) rfl rfl) ?_
    refine jg_gd _ _ _ _ _ _ rfl rfl rfl rfl rfl (fun hg => op_not (.gd rfl hg)) ?_
    refine jg_adr _ rfl _ rfl rfl (op_pick_or (.base rfl) (.base rfl) rfl (by intro h; first | (rw [h]; rfl) | (rw [hg, h]; rfl) | (rw [h, hg]; rfl) | simp_all)) ?_
    refine jg_nil ?_
    refine jn_keep [0, 1, 27] [] (.cons rfl (.cons rfl (.cons rfl .nil))) .nil ?_
    refine jn_seq ?_
    refine j_cond rfl (fun h3 => ?_) (fun h3 => ?_)
    · have k3 : okL l = false ∨ okL bd = false := by simpa using h3
      refine j_seq ?_
      refine j_region ?_
      refine jg_adr _ rfl _ rfl rfl (op_assign (.base rfl)) ?_
      refine jg_adr _ rfl _ rfl rfl (op_assign (.base rfl)) ?_
      refine jg_nil ?_
      refine jn_keep [4, 5] [] (.cons rfl (.cons rfl .nil)) .nil ?_
      refine jn_seq (j_ret (jr_seq ?_))
      exact jr_fin2 Try.results14 (res_nil rfl) (res_tmp rfl) ⟨rfl, rfl⟩ (svBI_eq (by unfold histR; rw [if_neg k1, if_pos k3]))
    · have k3 : ¬ (okL l = false ∨ okL bd = false) := by simpa using h3
      have hol : okL l = true := by simpa using (not_or.1 k3).1
      have hok := okL_iff.1 hol
      refine j_skip (jn_seq (j_seq (j_seq ?_)))
      refine j_region ?_
      refine jg_adr _ rfl _ rfl rfl (op_assign (.base rfl)) ?_
      refine jg_nil ?_
      refine jn_keep [0, 1, 6] [] (.cons rfl (.cons rfl (.cons rfl .nil))) .nil ?_
      refine jn_seq (j_block ?_)
      refine j_loopp (ι := Nat) (fun k => ⟨[(0, .tv (rSlice (rInt .i64)) l), (1, .tv (rSlice (rInt .i64)) bd), (6, .raw (.int .i64 ((k : Nat))))], []⟩) (fun k => 1 ≤ k ∧ (bd.take k).Pairwise (· < ·)) (fun k => bd.length - k) 1 (⟨Nat.le_refl _, pw_one bd⟩) (fun a w hi => (Sub.inv ⟨(by repeat (first | exact SubS_nil | refine SubS_cons rfl (by first | rfl | (simp; done) | assumption) ?_)), (by repeat (first | exact SubH_nil | refine SubH_cons rfl (by first | rfl | (simp; done) | assumption) ?_))⟩ hi)) ?_
      rintro k ⟨p1, p2⟩
      refine j_seq (j_seq ?_)
      refine j_region ?_
      refine jg_adr _ rfl _ rfl rfl (op_move (.base rfl)) ?_
      refine jg_adr _ rfl _ rfl rfl (op_move (.base rfl)) ?_
      refine jg_adr _ rfl _ rfl rfl (op_len Try.underlying22 (.base rfl)) ?_
      refine jg_adr _ rfl _ rfl rfl (op_lss (.base rfl) (.base rfl)) ?_
      refine jg_nil ?_
      refine jn_keep [0, 1, 6, 31] [] (.cons rfl (.cons rfl (.cons rfl (.cons rfl .nil)))) .nil ?_
      refine jn_seq ?_
      refine j_cond rfl (fun h6 => ?_) (fun h6 => ?_)
      · simp at h6
        refine j_skip (jn_seq (j_seq (j_block (j_seq ?_))))
        refine j_draw mo (by kernel_rfl) (
          AS.cons _ _ rfl (ga_adr rfl rfl rfl (op_move (.base rfl))) (
            AS.cons _ _ rfl (ga_adr rfl rfl rfl (op_move (.base rfl))) (
            AS.cons _ _ rfl (ga_adr rfl rfl rfl (op_index Try.underlying22 ty3 (.base rfl) (.base rfl) rfl (List.getElem?_eq_getElem (by first | omega | (simp; done) | (simp; omega) | (simp at hg; omega))))) (
            AS.cons _ _ rfl (ga_adr rfl rfl rfl (op_load ty3 (.base rfl))) (
            AS.cons _ _ rfl (ga_adr rfl rfl rfl (op_move (.base rfl))) (
            AS.cons _ _ rfl (ga_adr rfl rfl rfl (op_move (.base rfl))) (
            AS.cons _ _ rfl (ga_adr rfl rfl rfl (op_sub (.base rfl) (.base rfl) (w64 (by omega)))) (
            AS.cons _ _ rfl (ga_adr rfl rfl rfl (op_index Try.underlying22 ty3 (.base rfl) (.base rfl) (show ((k : Int) - 1 = ((k - 1 : Nat) : Int)) by omega) (List.getElem?_eq_getElem (by first | omega | (simp; done) | (simp; omega) | (simp at hg; omega))))) (
            AS.cons _ _ rfl (ga_adr rfl rfl rfl (op_load ty3 (.base rfl))) (
            AS.cons _ _ rfl (ga_adr rfl rfl rfl (op_leq (.base rfl) (.base rfl))) (
            AS.nil))))))))))) ?_
        refine jn_keep [0, 1, 6, 43] [] (.cons rfl (.cons rfl (.cons rfl (.cons rfl .nil)))) .nil ?_
        refine jn_seq ?_
        refine j_cond rfl (fun h8 => ?_) (fun h8 => ?_)
        · have h8 : bd[k] ≤ bd[k - 1] := by simp at h8; exact h8
          refine j_seq ?_
          refine j_region ?_
          refine jg_adr _ rfl _ rfl rfl (op_assign (.base rfl)) ?_
          refine jg_adr _ rfl _ rfl rfl (op_assign (.base rfl)) ?_
          refine jg_nil ?_
          refine jn_keep [4, 5] [] (.cons rfl (.cons rfl .nil)) .nil ?_
          refine jn_seq (j_ret (jr_blk (jr_seq (jr_loop (jr_blk (jr_seq ?_))))))
          exact jr_fin2 Try.results14 (res_nil rfl) (res_tmp rfl) ⟨rfl, rfl⟩ (svBI_eq (by unfold histR; rw [if_neg k1, if_neg k3, if_pos (pw_not p1 h6 h8)]))
        · have h8 : bd[k - 1] < bd[k] := by simp at h8; exact h8
          refine j_skip (jn_blk (jn_seq ?_))
          refine j_region ?_
          refine jg_adr _ rfl _ rfl rfl (op_move (.base rfl)) ?_
          refine jg_adr _ rfl _ rfl rfl (op_add (.base rfl) (.base rfl) (w64 (by omega))) ?_
          refine jg_adr _ rfl _ rfl rfl (op_assign (.base rfl)) ?_
          refine jg_nil ?_
          refine jn_keep [0, 1, 6] [] (.cons rfl (.cons rfl (.cons rfl .nil))) .nil ?_
          exact jn_loop (fun a w hi => ⟨k + 1, (by first | omega | (simp; omega)), (⟨by omega, pw_succ p1 h6 p2 h8⟩), (Sub.inv ⟨(by repeat (first | exact SubS_nil | refine SubS_cons rfl (by first | rfl | (simp; done) | assumption) ?_)), (by repeat (first | exact SubH_nil | refine SubH_cons rfl (by first | rfl | (simp; done) | assumption) ?_))⟩ hi)⟩)
      · simp at h6
        have hp : bd.Pairwise (· < ·) := by rwa [List.take_of_length_le (by omega)] at p2
        refine j_exit (je_seq (je_loop (je_blk (jn_seq (j_seq ?_)))))
        refine j_region ?_
        refine jg_adr _ rfl _ rfl rfl (op_move (.base rfl)) ?_
        refine jg_adr _ rfl _ rfl rfl (op_len Try.underlying22 (.base rfl)) ?_
        refine jg_adr _ rfl _ rfl rfl (op_add (.base rfl) (.base rfl) (w64 (by omega))) ?_
        refine jg_os _ rfl (op_make Try.underlying28 ty44 z44 rfl by44 (.base rfl) (.base rfl) (by simp; omega) (by unfold maxLen; simp; omega) rfl rfl rfl) ?_
        refine jg_adr _ rfl _ rfl rfl (op_assign (.base rfl)) ?_
        refine jg_nil ?_
        refine jn_keep [0, 1, 7] [47] (.cons rfl (.cons rfl (.cons rfl .nil))) (.cons rfl .nil) ?_
        refine jn_seq (j_seq ?_)
        refine j_region ?_
        refine jg_adr _ rfl _ rfl rfl (op_move (.base rfl)) ?_
        refine jg_adr _ rfl _ rfl rfl (op_oindex Try.underlying28 ty44 (.base rfl) (.base rfl) (show (0 : Int) = ((0 : Nat) : Int) from rfl) (by first | omega | (simp; done) | (simp; omega))) ?_
        refine jg_adr _ rfl _ rfl rfl (op_ofield fld44_0 (.base rfl)) ?_
        refine jg_os _ rfl (op_ostore ty3 (.base rfl) rfl (show (List.replicate (bd.length + 1) b0)[0 + 0]? = some b0 by simp) ln44_0 (.raw (.base rfl) rfl)) ?_
        refine jg_nil ?_
        refine jn_keep [0, 1, 7] [47] (.cons rfl (.cons rfl (.cons rfl .nil))) (.cons rfl .nil) ?_
        refine jn_seq (j_seq ?_)
        have hy12 : ((List.replicate (bd.length + 1) b0).set (0 + 0) (-1000000000000000, 0, 0, 0))[0 + bd.length]? = some ((if bd.length = 0 then -1000000000000000 else 0), 0, 0, 0) := by
          rw [Nat.zero_add, Nat.zero_add, List.getElem?_set]
          by_cases q : bd.length = 0
          · rw [if_pos q.symm, if_pos q]; simp
          · rw [if_neg (fun e => q e.symm), if_neg q, List.getElem?_replicate, if_pos (by omega)]; rfl
        refine j_region ?_
        refine jg_adr _ rfl _ rfl rfl (op_move (.base rfl)) ?_
        refine jg_adr _ rfl _ rfl rfl (op_move (.base rfl)) ?_
        refine jg_adr _ rfl _ rfl rfl (op_len Try.underlying22 (.base rfl)) ?_
        refine jg_adr _ rfl _ rfl rfl (op_oindex Try.underlying28 ty44 (.base rfl) (.base rfl) rfl (by first | omega | (simp; done) | (simp; omega))) ?_
        refine jg_adr _ rfl _ rfl rfl (op_ofield fld44_1 (.base rfl)) ?_
        refine jg_os _ rfl (op_ostore ty3 (.base rfl) rfl hy12 ln44_1 (.raw (.base rfl) rfl)) ?_
        refine jg_nil ?_
        refine jn_keep [0, 1, 7] [47] (.cons rfl (.cons rfl (.cons rfl .nil))) (.cons rfl .nil) ?_
        refine jn_seq (j_seq (j_seq ?_))
        refine j_region ?_
        refine jg_adr _ rfl _ rfl rfl (op_move (.base rfl)) ?_
        refine jg_adr _ rfl _ rfl rfl (op_len Try.underlying22 (.base rfl)) ?_
        refine jg_adr _ rfl _ rfl rfl (op_move (.base rfl)) ?_
        refine jg_nil ?_
        refine jn_keep [0, 1, 7, 56, 57, 58] [47] (.cons rfl (.cons rfl (.cons rfl (.cons rfl (.cons rfl (.cons rfl .nil)))))) (.cons rfl .nil) ?_
        refine jn_seq (j_block ?_)
        refine j_loopp (ι := Nat) (fun i => ⟨[(0, .tv (rSlice (rInt .i64)) l), (1, .tv (rSlice (rInt .i64)) bd), (7, .own 47 rBucket.n 0 (bd.length + 1)), (56, .tv (rSlice (rInt .i64)) bd), (57, .raw (.int .i64 (bd.length))), (58, .raw (.int .i64 ((i : Nat))))], [(47, ⟨rBucket, fillH bd i⟩)]⟩) (fun i => i ≤ bd.length) (fun i => bd.length - i) 0 (Nat.zero_le _) (fun a w hi => (Sub.inv ⟨(by repeat (first | exact SubS_nil | refine SubS_cons rfl (by first | rfl | (simp; done) | assumption) ?_)), (by repeat (first | exact SubH_nil | refine SubH_cons rfl (by first | rfl | exact congrArg (HB.mk rBucket) (by rw [Nat.zero_add, Nat.zero_add]; exact fillH_0 bd)) ?_))⟩ hi)) ?_
        rintro i hi1
        have hfl := fillH_len bd i
        refine j_seq ?_
        refine j_region ?_
        refine jg_adr _ rfl _ rfl rfl (op_lss (.base rfl) (.base rfl)) ?_
        refine jg_nil ?_
        refine jn_keep [0, 1, 7, 56, 57, 58, 59] [47] (.cons rfl (.cons rfl (.cons rfl (.cons rfl (.cons rfl (.cons rfl (.cons rfl .nil))))))) (.cons rfl .nil) ?_
        refine jn_seq (j_seq ?_)
        refine j_cond rfl (fun h14 => ?_) (fun h14 => ?_)
        · simp at h14
          have hix : (i : Int) + 1 = ((i + 1 : Nat) : Int) := by omega
          have hg16 := fillH_get0 (bd := bd) (i := i) (j := i) (by omega)
          have hg17 := fillH_get0 (bd := bd) (i := i) (j := i + 1) (by omega)
          have hst : ((fillH bd i).set (0 + i) ((if i = 0 then -1000000000000000 else if i ≤ i then bd.getD (i - 1) 0 else 0), bd[i], 0, 0)).set (0 + (i + 1)) (bd[i], if i + 1 = bd.length then 1000000000000001 else if i + 1 < i then bd.getD (i + 1) 0 else 0, 0, 0) = fillH bd (i + 1) := by
            rw [← fillH_step h14, bd_get h14, if_pos (Nat.le_refl i), if_neg (show ¬ i + 1 < i by omega), Nat.zero_add, Nat.zero_add]
          refine j_skip (jn_seq (j_seq (j_block (j_seq ?_))))
          refine j_region ?_
          refine jg_adr _ rfl _ rfl rfl (op_move (.base rfl)) ?_
          refine jg_adr _ rfl _ rfl rfl (op_index Try.underlying22 ty3 (.base rfl) (.base rfl) rfl (List.getElem?_eq_getElem (by first | omega | (simp; done) | (simp; omega) | (simp at hg; omega)))) ?_
          refine jg_adr _ rfl _ rfl rfl (op_load ty3 (.base rfl)) ?_
          refine jg_adr _ rfl _ rfl rfl (op_assign (.base rfl)) ?_
          refine jg_adr _ rfl _ rfl rfl (op_assign (.base rfl)) ?_
          refine jg_nil ?_
          refine jn_keep [0, 1, 7, 8, 9, 56, 57, 58] [47] (.cons rfl (.cons rfl (.cons rfl (.cons rfl (.cons rfl (.cons rfl (.cons rfl (.cons rfl .nil)))))))) (.cons rfl .nil) ?_
          refine jn_seq (j_seq ?_)
          refine j_region ?_
          refine jg_adr _ rfl _ rfl rfl (op_move (.base rfl)) ?_
          refine jg_adr _ rfl _ rfl rfl (op_move (.base rfl)) ?_
          refine jg_adr _ rfl _ rfl rfl (op_move (.base rfl)) ?_
          refine jg_adr _ rfl _ rfl rfl (op_oindex Try.underlying28 ty44 (.base rfl) (.base rfl) rfl (by first | omega | (simp; done) | (simp; omega))) ?_
          refine jg_adr _ rfl _ rfl rfl (op_ofield fld44_1 (.base rfl)) ?_
          refine jg_os _ rfl (op_ostore ty3 (.base rfl) rfl hg16 ln44_1 (.raw (.base rfl) rfl)) ?_
          refine jg_nil ?_
          refine jn_keep [0, 1, 7, 8, 9, 56, 57, 58] [47] (.cons rfl (.cons rfl (.cons rfl (.cons rfl (.cons rfl (.cons rfl (.cons rfl (.cons rfl .nil)))))))) (.cons rfl .nil) ?_
          refine jn_seq ?_
          refine j_region ?_
          refine jg_adr _ rfl _ rfl rfl (op_move (.base rfl)) ?_
          refine jg_adr _ rfl _ rfl rfl (op_move (.base rfl)) ?_
          refine jg_adr _ rfl _ rfl rfl (op_add (.base rfl) (.base rfl) (w64 (by omega))) ?_
          refine jg_adr _ rfl _ rfl rfl (op_move (.base rfl)) ?_
          refine jg_adr _ rfl _ rfl rfl (op_oindex Try.underlying28 ty44 (.base rfl) (.base rfl) hix (by first | omega | (simp; done) | (simp; omega))) ?_
          refine jg_adr _ rfl _ rfl rfl (op_ofield fld44_0 (.base rfl)) ?_
          refine jg_os _ rfl (op_ostore ty3 (.base rfl) rfl ((List.getElem?_set_ne (by omega)).trans hg17) ln44_0 (.raw (.base rfl) rfl)) ?_
          refine jg_nil ?_
          refine jn_keep [0, 1, 7, 56, 57, 58] [47] (.cons rfl (.cons rfl (.cons rfl (.cons rfl (.cons rfl (.cons rfl .nil)))))) (.cons rfl .nil) ?_
          refine jn_blk (jn_seq ?_)
          refine j_region ?_
          refine jg_adr _ rfl _ rfl rfl (op_add (.base rfl) (.base rfl) (w64 (by omega))) ?_
          refine jg_adr _ rfl _ rfl rfl (op_move (.base rfl)) ?_
          refine jg_nil ?_
          refine jn_keep [0, 1, 7, 56, 57, 58] [47] (.cons rfl (.cons rfl (.cons rfl (.cons rfl (.cons rfl (.cons rfl .nil)))))) (.cons rfl .nil) ?_
          exact jn_loop (fun a w hi => ⟨i + 1, (by omega), (by omega), Sub.inv ⟨(by repeat (first | exact SubS_nil | refine SubS_cons rfl (by first | rfl | (simp; done) | assumption) ?_)), (by repeat (first | exact SubH_nil | refine SubH_cons rfl (by first | rfl | exact congrArg (HB.mk rBucket) hst) ?_))⟩ hi⟩)
        · simp at h14
          obtain rfl : i = bd.length := by omega
          refine j_exit (je_seq (je_loop (je_blk (jn_seq (j_seq (j_seq ?_))))))
          rw [fillH_n]
          refine j_region ?_
          refine jg_adr _ rfl _ rfl rfl (op_move (.base rfl)) ?_
          refine jg_adr _ rfl _ rfl rfl (op_len Try.underlying22 (.base rfl)) ?_
          refine jg_adr _ rfl _ rfl rfl (op_move (.base rfl)) ?_
          refine jg_nil ?_
          refine jn_keep [1, 7, 75, 76, 77] [47] (.cons rfl (.cons rfl (.cons rfl (.cons rfl (.cons rfl .nil))))) (.cons rfl .nil) ?_
          refine jn_seq (j_block ?_)
          refine j_loopp (ι := Nat × List TBucket) (fun (k, bs) => ⟨[(1, .tv (rSlice (rInt .i64)) bd), (7, .own 47 rBucket.n 0 (bd.length + 1)), (75, .tv (rSlice (rInt .i64)) l), (76, .raw (.int .i64 (l.length))), (77, .raw (.int .i64 ((k : Nat))))], [(47, ⟨rBucket, bs⟩)]⟩) (fun (k, bs) => (k ≤ l.length ∧ bs.length = bd.length + 1) ∧ BdB k bs ∧ (l.drop k).foldl (fun bs v => putB bs (cntLt bd (v + 1)) v) bs = histF bd l) (fun (k, bs) => l.length - k) (0, bkt0 bd) (⟨⟨Nat.zero_le _, bkt0_len bd⟩, bkt0_bd bd, rfl⟩) (fun a w hi => (Sub.inv ⟨(by repeat (first | exact SubS_nil | refine SubS_cons rfl (by first | rfl | (simp; done) | assumption) ?_)), (by repeat (first | exact SubH_nil | refine SubH_cons rfl (by first | rfl | (simp; done) | assumption) ?_))⟩ hi)) ?_
          rintro ⟨k, bs⟩ ⟨⟨q1, q2⟩, q3, q4⟩
          refine j_seq ?_
          refine j_region ?_
          refine jg_adr _ rfl _ rfl rfl (op_lss (.base rfl) (.base rfl)) ?_
          refine jg_nil ?_
          refine jn_keep [1, 7, 75, 76, 77, 78] [47] (.cons rfl (.cons rfl (.cons rfl (.cons rfl (.cons rfl (.cons rfl .nil)))))) (.cons rfl .nil) ?_
          refine jn_seq (j_seq ?_)
          refine j_cond rfl (fun h20 => ?_) (fun h20 => ?_)
          · simp at h20
            have hv := hok _ (List.getElem_mem h20)
            have hcl := cntLt_le bd (l[k] + 1)
            have hgt : cntLt bd (l[k] + 1) < bs.length := by omega
            have hbg := bdB_get q3 hgt
            have hbb : bs[0 + cntLt bd (l[k] + 1)]? = some (bs.getD (cntLt bd (l[k] + 1)) b0) := by rw [Nat.zero_add]; exact getB hgt
            refine j_skip (jn_seq (j_seq (j_block (j_seq ?_))))
            refine j_region ?_
            refine jg_adr _ rfl _ rfl rfl (op_index Try.underlying22 ty3 (.base rfl) (.base rfl) rfl (List.getElem?_eq_getElem (by first | omega | (simp; done) | (simp; omega) | (simp at hg; omega)))) ?_
            refine jg_adr _ rfl _ rfl rfl (op_load ty3 (.base rfl)) ?_
            refine jg_adr _ rfl _ rfl rfl (op_assign (.base rfl)) ?_
            refine jg_nil ?_
            refine jn_keep [1, 7, 11, 75, 76, 77] [47] (.cons rfl (.cons rfl (.cons rfl (.cons rfl (.cons rfl (.cons rfl .nil)))))) (.cons rfl .nil) ?_
            refine jn_seq ?_
            refine j_region ?_
            refine jg_adr _ rfl _ rfl rfl (op_move (.base rfl)) ?_
            refine jg_adr _ rfl _ rfl rfl (op_move (.base rfl)) ?_
            refine jg_adr _ rfl _ rfl rfl (op_move (.base rfl)) ?_
            refine jg_adr _ rfl _ rfl rfl (op_add (.base rfl) (.base rfl) (w64 (by omega))) ?_
            refine jg_adr _ rfl _ rfl rfl (op_call (searchI_ok _ _ hp) (.cons (.base rfl) (.cons (.base rfl) .nil)) rfl rfl) ?_
            refine jg_adr _ rfl _ rfl rfl (op_oindex Try.underlying28 ty44 (.base rfl) (.base rfl) rfl (by first | omega | (simp; done) | (simp; omega))) ?_
            refine jg_adr _ rfl _ rfl rfl (op_move (.base rfl)) ?_
            refine jg_os _ rfl (op_callW (add_ok _ _ (by omega) (by omega)) exactB (.base rfl) (.base rfl) rfl hbb rfl) ?_
            refine jg_nil ?_
            refine jn_keep [1, 7, 75, 76, 77] [47] (.cons rfl (.cons rfl (.cons rfl (.cons rfl (.cons rfl .nil))))) (.cons rfl .nil) ?_
            refine jn_blk (jn_seq ?_)
            refine j_region ?_
            refine jg_adr _ rfl _ rfl rfl (op_add (.base rfl) (.base rfl) (w64 (by omega))) ?_
            refine jg_adr _ rfl _ rfl rfl (op_move (.base rfl)) ?_
            refine jg_nil ?_
            refine jn_keep [1, 7, 75, 76, 77] [47] (.cons rfl (.cons rfl (.cons rfl (.cons rfl (.cons rfl .nil))))) (.cons rfl .nil) ?_
            exact jn_loop (fun a w hi => ⟨(k + 1, putB bs (cntLt bd (l[k] + 1)) l[k]), (by show l.length - (k + 1) < l.length - k; omega), ⟨⟨by omega, by rw [putB_len]; exact q2⟩, bdB_put q3 hgt hv, by rw [← q4, List.drop_eq_getElem_cons h20, List.foldl_cons]⟩, Sub.inv ⟨(by repeat (first | exact SubS_nil | refine SubS_cons rfl (by first | rfl | (simp; done) | assumption) ?_)), (by repeat (first | exact SubH_nil | refine SubH_cons rfl (by first | rfl | exact congrArg (HB.mk rBucket) (by rw [Nat.zero_add]; rfl)) ?_))⟩ hi⟩)
          · simp at h20
            refine j_exit (je_seq (je_loop (je_blk (jn_seq (j_seq ?_)))))
            refine j_region ?_
            refine jg_adr _ rfl _ rfl rfl (op_move (.base rfl)) ?_
            refine jg_adr _ rfl _ rfl rfl (op_assign (.base rfl)) ?_
            refine jg_adr _ rfl _ rfl rfl (op_assign (.base rfl)) ?_
            refine jg_nil ?_
            refine jn_keep [4, 5] [47] (.cons rfl (.cons rfl .nil)) (.cons rfl .nil) ?_
            refine jn_seq (j_ret ?_)
            refine jr_seal (rt := rBucket) 47 4 (dropH 47 _) rfl rfl (by first | omega | (simp; done) | (simp; omega)) (dropH_sub 47 _) (dropH_no 47 _) ?_
            exact jr_fin2 Try.results14 (res_tmp rfl) (res_tmp rfl) ⟨rfl, rfl⟩ (svBI_eq (by unfold histR; rw [if_neg k1, if_neg k3, if_neg (fun q => q hp), List.drop_zero, List.take_of_length_le (by omega), ← q4, List.drop_of_length_le (show l.length ≤ k by omega)]; rfl))

theorem rhist_ok (l bd : List Int) : Ct Try.prog 15 [.tv (rSlice (rInt .i64)) l, .tv (rSlice (rInt .i64)) bd] (svBI (histR l bd)) := by
  refine ct_intro Try.func15 rfl rfl Try.ntmps15 rfl rfl ?_
  intro w0 ok0
  refine j_len 0 rfl (fun hl0 => ?_)
  refine j_len 1 rfl (fun hl1 => ?_)
  refine j_seq ?_
  refine j_region ?_
  refine jg_adr _ rfl _ rfl rfl (op_assign (.base rfl)) ?_
  refine jg_adr _ rfl _ rfl rfl (op_assign (.base rfl)) ?_
  refine jg_nil ?_
  refine jn_keep [0, 1] [] (.cons rfl (.cons rfl .nil)) .nil ?_
  refine jn_seq (j_seq (j_seq ?_))
  refine j_region ?_
  refine jg_adr _ rfl _ rfl rfl (op_move (.base rfl)) ?_
  refine jg_adr _ rfl _ rfl rfl (op_len Try.underlying22 (.base rfl)) ?_
  refine jg_adr _ rfl _ rfl rfl (op_gtr (.base rfl) (.base rfl)) ?_
  refine jg_adr _ rfl _ rfl rfl (op_move (.base rfl)) ?_
  refine jg_gd _ _ _ _ _ _ rfl rfl rfl rfl rfl (fun hg => op_move (.base rfl)) ?_
  refine jg_gd _ _ _ _ _ _ rfl rfl rfl rfl rfl (fun hg => op_len Try.underlying22 (.gd rfl hg)) ?_
  refine jg_gd _ _ _ _ _ _ rfl rfl rfl rfl rfl (fun hg => op_gtr (.gd rfl hg) (.base rfl)) ?_
  refine jg_adr _ rfl _ rfl rfl (op_pick_or (.base rfl) (.base rfl) rfl (by intro h; first | (rw [h]; rfl) | (rw [hg, h]; rfl) | (rw [h, hg]; rfl) | simp_all)) ?_
  refine jg_nil ?_
  refine jn_keep [0, 1, 18] [] (.cons rfl (.cons rfl (.cons rfl .nil))) .nil ?_
  refine jn_seq ?_
  refine j_cond rfl (fun h1 => ?_) (fun h1 => ?_)
  · have k1 : 4096 < l.length ∨ 64 < bd.length := by simp at h1; omega
    refine j_seq ?_
    refine j_region ?_
    refine jg_adr _ rfl _ rfl rfl (op_assign (.base rfl)) ?_
    refine jg_adr _ rfl _ rfl rfl (op_assign (.base rfl)) ?_
    refine jg_nil ?_
    refine jn_keep [4, 5] [] (.cons rfl (.cons rfl .nil)) .nil ?_
    refine jn_seq (j_ret (jr_seq ?_))
    exact jr_fin2 Try.results15 (res_nil rfl) (res_tmp rfl) ⟨rfl, rfl⟩ (svBI_eq (by unfold histR; rw [if_pos k1]))
  · have k1 : ¬ (4096 < l.length ∨ 64 < bd.length) := by simp at h1; omega
    refine j_skip (jn_seq (j_seq (j_seq ?_)))
    refine j_region ?_
    refine jg_adr _ rfl _ rfl rfl (op_move (.base rfl)) ?_
    refine jg_adr _ rfl _ rfl rfl (op_call (rwithin_ok _) (.cons (.base rfl) .nil) rfl rfl) ?_
    refine jg_adr _ rfl _ rfl rfl (op_not (.base rfl)) ?_
    refine jg_adr _ rfl _ rfl rfl (op_move (.base rfl)) ?_
    refine jg_gd _ _ _ _ _ _ rfl rfl rfl rfl rfl (fun hg => op_move (.base rfl)) ?_
    refine jg_gd _ _ _ _ _ _ rfl rfl rfl rfl rfl (fun hg => op_call (rwithin_ok _) (.cons (.gd rfl hg) .nil) rfl rfl) ?_
    refine jg_gd _ _ _ _ _ _ rfl rfl rfl rfl rfl (fun hg => op_not (.gd rfl hg)) ?_
    refine jg_adr _ rfl _ rfl rfl (op_pick_or (.base rfl) (.base rfl) rfl (by intro h; first | (rw [h]; rfl) | (rw [hg, h]; rfl) | (rw [h, hg]; rfl) | simp_all)) ?_
    refine jg_nil ?_
    refine jn_keep [0, 1, 26] [] (.cons rfl (.cons rfl (.cons rfl .nil))) .nil ?_
    refine jn_seq ?_
    refine j_cond rfl (fun h3 => ?_) (fun h3 => ?_)
    · have k3 : okL l = false ∨ okL bd = false := by simpa using h3
      refine j_seq ?_
      refine j_region ?_
      refine jg_adr _ rfl _ rfl rfl (op_assign (.base rfl)) ?_
      refine jg_adr _ rfl _ rfl rfl (op_assign (.base rfl)) ?_
      refine jg_nil ?_
      refine jn_keep [4, 5] [] (.cons rfl (.cons rfl .nil)) .nil ?_
      refine jn_seq (j_ret (jr_seq ?_))
      exact jr_fin2 Try.results15 (res_nil rfl) (res_tmp rfl) ⟨rfl, rfl⟩ (svBI_eq (by unfold histR; rw [if_neg k1, if_pos k3]))
    · have k3 : ¬ (okL l = false ∨ okL bd = false) := by simpa using h3
      have hol : okL l = true := by simpa using (not_or.1 k3).1
      have hok := okL_iff.1 hol
      refine j_skip (jn_seq (j_seq (j_seq ?_)))
      refine j_region ?_
      refine jg_adr _ rfl _ rfl rfl (op_assign (.base rfl)) ?_
      refine jg_nil ?_
      refine jn_keep [0, 1, 6] [] (.cons rfl (.cons rfl (.cons rfl .nil))) .nil ?_
      refine jn_seq (j_block ?_)
      refine j_loopp (ι := Nat) (fun k => ⟨[(0, .tv (rSlice (rInt .i64)) l), (1, .tv (rSlice (rInt .i64)) bd), (6, .raw (.int .i64 ((k : Nat))))], []⟩) (fun k => 1 ≤ k ∧ (bd.take k).Pairwise (· < ·)) (fun k => bd.length - k) 1 (⟨Nat.le_refl _, pw_one bd⟩) (fun a w hi => (Sub.inv ⟨(by repeat (first | exact SubS_nil | refine SubS_cons rfl (by first | rfl | (simp; done) | assumption) ?_)), (by repeat (first | exact SubH_nil | refine SubH_cons rfl (by first | rfl | (simp; done) | assumption) ?_))⟩ hi)) ?_
      rintro k ⟨p1, p2⟩
      refine j_seq (j_seq ?_)
      refine j_region ?_
      refine jg_adr _ rfl _ rfl rfl (op_move (.base rfl)) ?_
      refine jg_adr _ rfl _ rfl rfl (op_move (.base rfl)) ?_
      refine jg_adr _ rfl _ rfl rfl (op_len Try.underlying22 (.base rfl)) ?_
      refine jg_adr _ rfl _ rfl rfl (op_lss (.base rfl) (.base rfl)) ?_
      refine jg_nil ?_
      refine jn_keep [0, 1, 6, 30] [] (.cons rfl (.cons rfl (.cons rfl (.cons rfl .nil)))) .nil ?_
      refine jn_seq ?_
      refine j_cond rfl (fun h6 => ?_) (fun h6 => ?_)
      · simp at h6
        refine j_skip (jn_seq (j_seq (j_block (j_seq ?_))))
        refine j_draw mo (by kernel_rfl) (
          AS.cons _ _ rfl (ga_adr rfl rfl rfl (op_move (.base rfl))) (
            AS.cons _ _ rfl (ga_adr rfl rfl rfl (op_move (.base rfl))) (
            AS.cons _ _ rfl (ga_adr rfl rfl rfl (op_sub (.base rfl) (.base rfl) (w64 (by omega)))) (
            AS.cons _ _ rfl (ga_adr rfl rfl rfl (op_index Try.underlying22 ty3 (.base rfl) (.base rfl) (show ((k : Int) - 1 = ((k - 1 : Nat) : Int)) by omega) (List.getElem?_eq_getElem (by first | omega | (simp; done) | (simp; omega) | (simp at hg; omega))))) (
            AS.cons _ _ rfl (ga_adr rfl rfl rfl (op_load ty3 (.base rfl))) (
            AS.cons _ _ rfl (ga_adr rfl rfl rfl (op_move (.base rfl))) (
            AS.cons _ _ rfl (ga_adr rfl rfl rfl (op_move (.base rfl))) (
            AS.cons _ _ rfl (ga_adr rfl rfl rfl (op_index Try.underlying22 ty3 (.base rfl) (.base rfl) rfl (List.getElem?_eq_getElem (by first | omega | (simp; done) | (simp; omega) | (simp at hg; omega))))) (
            AS.cons _ _ rfl (ga_adr rfl rfl rfl (op_load ty3 (.base rfl))) (
            AS.cons _ _ rfl (ga_adr rfl rfl rfl (op_geq (.base rfl) (.base rfl))) (
            AS.nil))))))))))) ?_
        refine jn_keep [0, 1, 6, 42] [] (.cons rfl (.cons rfl (.cons rfl (.cons rfl .nil)))) .nil ?_
        refine jn_seq ?_
        refine j_cond rfl (fun h8 => ?_) (fun h8 => ?_)
        · have h8 : bd[k] ≤ bd[k - 1] := by simp at h8; exact h8
          refine j_seq ?_
          refine j_region ?_
          refine jg_adr _ rfl _ rfl rfl (op_assign (.base rfl)) ?_
          refine jg_adr _ rfl _ rfl rfl (op_assign (.base rfl)) ?_
          refine jg_nil ?_
          refine jn_keep [4, 5] [] (.cons rfl (.cons rfl .nil)) .nil ?_
          refine jn_seq (j_ret (jr_blk (jr_seq (jr_loop (jr_blk (jr_seq ?_))))))
          exact jr_fin2 Try.results15 (res_nil rfl) (res_tmp rfl) ⟨rfl, rfl⟩ (svBI_eq (by unfold histR; rw [if_neg k1, if_neg k3, if_pos (pw_not p1 h6 h8)]))
        · have h8 : bd[k - 1] < bd[k] := by simp at h8; exact h8
          refine j_skip (jn_blk (jn_seq ?_))
          refine j_region ?_
          refine jg_adr _ rfl _ rfl rfl (op_move (.base rfl)) ?_
          refine jg_adr _ rfl _ rfl rfl (op_add (.base rfl) (.base rfl) (w64 (by omega))) ?_
          refine jg_adr _ rfl _ rfl rfl (op_assign (.base rfl)) ?_
          refine jg_nil ?_
          refine jn_keep [0, 1, 6] [] (.cons rfl (.cons rfl (.cons rfl .nil))) .nil ?_
          exact jn_loop (fun a w hi => ⟨k + 1, (by first | omega | (simp; omega)), (⟨by omega, pw_succ p1 h6 p2 h8⟩), (Sub.inv ⟨(by repeat (first | exact SubS_nil | refine SubS_cons rfl (by first | rfl | (simp; done) | assumption) ?_)), (by repeat (first | exact SubH_nil | refine SubH_cons rfl (by first | rfl | (simp; done) | assumption) ?_))⟩ hi)⟩)
      · simp at h6
        have hp : bd.Pairwise (· < ·) := by rwa [List.take_of_length_le (by omega)] at p2
        refine j_exit (je_seq (je_loop (je_blk (jn_seq (j_seq ?_)))))
        refine j_region ?_
        refine jg_adr _ rfl _ rfl rfl (op_assign (.base rfl)) ?_
        refine jg_nil ?_
        refine jn_keep [0, 1, 7] [] (.cons rfl (.cons rfl (.cons rfl .nil))) .nil ?_
        refine jn_seq (j_seq (j_seq ?_))
        refine j_region ?_
        refine jg_adr _ rfl _ rfl rfl (op_assign (.base rfl)) ?_
        refine jg_nil ?_
        refine jn_keep [0, 1, 7, 8] [] (.cons rfl (.cons rfl (.cons rfl (.cons rfl .nil)))) .nil ?_
        refine jn_seq (j_block ?_)
        refine j_vac 70 7 rBucket rfl rfl rfl ?_
        refine j_loopp (ι := Nat) (fun i => ⟨[(0, .tv (rSlice (rInt .i64)) l), (1, .tv (rSlice (rInt .i64)) bd), (7, .own 70 rBucket.n 0 (hcK bd l i).length), (8, .raw (.int .i64 ((i : Nat))))], [(70, ⟨rBucket, hcK bd l i⟩)]⟩) (fun i => i ≤ bd.length + 1) (fun i => bd.length + 1 - i) 0 (Nat.zero_le _) (fun a w hi => (Sub.inv ⟨(by repeat (first | exact SubS_nil | refine SubS_cons rfl (by first | rfl | (simp; done) | assumption) ?_)), (by repeat (first | exact SubH_nil | refine SubH_cons rfl (by first | rfl | (simp; done) | assumption) ?_))⟩ hi)) ?_
        rintro i hi1
        have hcl := hcK_len bd l i
        refine j_seq (j_seq ?_)
        refine j_region ?_
        refine jg_adr _ rfl _ rfl rfl (op_move (.base rfl)) ?_
        refine jg_adr _ rfl _ rfl rfl (op_move (.base rfl)) ?_
        refine jg_adr _ rfl _ rfl rfl (op_len Try.underlying22 (.base rfl)) ?_
        refine jg_adr _ rfl _ rfl rfl (op_leq (.base rfl) (.base rfl)) ?_
        refine jg_nil ?_
        refine jn_keep [0, 1, 7, 8, 46] [70] (.cons rfl (.cons rfl (.cons rfl (.cons rfl (.cons rfl .nil))))) (.cons rfl .nil) ?_
        refine jn_seq ?_
        refine j_cond rfl (fun h12 => ?_) (fun h12 => ?_)
        · simp at h12
          refine j_skip (jn_seq (j_seq (j_block (j_seq ?_))))
          refine j_region ?_
          refine jg_adr _ rfl _ rfl rfl (op_build z44 rfl pl44 (.cons (rt' := (rInt .i64)) rfl ln44_0 (.raw (.base rfl) rfl) (.cons (rt' := (rInt .i64)) rfl ln44_1 (.raw (.base rfl) rfl) .nil))) ?_
          refine jg_os _ rfl (op_alloc _ z44 rfl rfl rfl) ?_
          refine jg_os _ rfl (op_ostore ty44 (.base rfl) rfl rfl (Lens.id _) (.tv (.base rfl))) ?_
          refine jg_nil ?_
          refine jn_keep [0, 1, 7, 8, 9] [9, 70] (.cons rfl (.cons rfl (.cons rfl (.cons rfl (.cons rfl .nil))))) (.cons rfl (.cons rfl .nil)) ?_
          refine jn_seq (j_seq (j_seq ?_))
          refine j_region ?_
          refine jg_adr _ rfl _ rfl rfl (op_move (.base rfl)) ?_
          refine jg_adr _ rfl _ rfl rfl (op_gtr (.base rfl) (.base rfl)) ?_
          refine jg_nil ?_
          refine jn_keep [0, 1, 7, 8, 9, 51] [9, 70] (.cons rfl (.cons rfl (.cons rfl (.cons rfl (.cons rfl (.cons rfl .nil)))))) (.cons rfl (.cons rfl .nil)) ?_
          refine jn_seq ?_
          refine j_cond rfl (fun h15 => ?_) (fun h15 => ?_)
          · have h15 : 0 < i := by simpa using h15
            have hlo : loAt bd i = bd[i - 1] := by unfold loAt; rw [if_neg (by omega), bd_get (by omega)]
            refine j_region ?_
            refine jg_adr _ rfl _ rfl rfl (op_move (.base rfl)) ?_
            refine jg_adr _ rfl _ rfl rfl (op_move (.base rfl)) ?_
            refine jg_adr _ rfl _ rfl rfl (op_sub (.base rfl) (.base rfl) (w64 (by omega))) ?_
            refine jg_adr _ rfl _ rfl rfl (op_index Try.underlying22 ty3 (.base rfl) (.base rfl) (show ((i : Int) - 1 = ((i - 1 : Nat) : Int)) by omega) (List.getElem?_eq_getElem (by first | omega | (simp; done) | (simp; omega) | (simp at hg; omega)))) ?_
            refine jg_adr _ rfl _ rfl rfl (op_load ty3 (.base rfl)) ?_
            refine jg_adr _ rfl _ rfl rfl (op_ofield fld44_0 (.base rfl)) ?_
            refine jg_os _ rfl (op_ostore ty3 (.base rfl) rfl rfl ln44_0 (.raw (.base rfl) rfl)) ?_
            refine jg_nil ?_
            refine jn_keep [0, 1, 7, 8, 9] [9, 70] (.cons rfl (.cons rfl (.cons rfl (.cons rfl (.cons rfl .nil))))) (.cons rfl (.cons rfl .nil)) ?_
            refine jn_seq (j_seq (j_seq ?_))
            refine j_region ?_
            refine jg_adr _ rfl _ rfl rfl (op_move (.base rfl)) ?_
            refine jg_adr _ rfl _ rfl rfl (op_move (.base rfl)) ?_
            refine jg_adr _ rfl _ rfl rfl (op_len Try.underlying22 (.base rfl)) ?_
            refine jg_adr _ rfl _ rfl rfl (op_lss (.base rfl) (.base rfl)) ?_
            refine jg_nil ?_
            refine jn_keep [0, 1, 7, 8, 9, 61] [9, 70] (.cons rfl (.cons rfl (.cons rfl (.cons rfl (.cons rfl (.cons rfl .nil)))))) (.cons rfl (.cons rfl .nil)) ?_
            refine jn_seq ?_
            refine j_cond rfl (fun h17 => ?_) (fun h17 => ?_)
            · have h17 : i < bd.length := by simpa using h17
              have hhi : hiAt bd i = bd[i] := by unfold hiAt; rw [if_neg (by omega), bd_get h17]
              refine j_region ?_
              refine jg_adr _ rfl _ rfl rfl (op_move (.base rfl)) ?_
              refine jg_adr _ rfl _ rfl rfl (op_move (.base rfl)) ?_
              refine jg_adr _ rfl _ rfl rfl (op_index Try.underlying22 ty3 (.base rfl) (.base rfl) rfl (List.getElem?_eq_getElem (by first | omega | (simp; done) | (simp; omega) | (simp at hg; omega)))) ?_
              refine jg_adr _ rfl _ rfl rfl (op_load ty3 (.base rfl)) ?_
              refine jg_adr _ rfl _ rfl rfl (op_ofield fld44_1 (.base rfl)) ?_
              refine jg_os _ rfl (op_ostore ty3 (.base rfl) rfl rfl ln44_1 (.raw (.base rfl) rfl)) ?_
              refine jg_nil ?_
              refine jn_keep [0, 1, 7, 8, 9] [9, 70] (.cons rfl (.cons rfl (.cons rfl (.cons rfl (.cons rfl .nil))))) (.cons rfl (.cons rfl .nil)) ?_
              refine jn_seq (j_seq (j_seq ?_))
              refine j_region ?_
              refine jg_adr _ rfl _ rfl rfl (op_assign (.base rfl)) ?_
              refine jg_nil ?_
              refine jn_keep [0, 1, 7, 8, 9, 10] [9, 70] (.cons rfl (.cons rfl (.cons rfl (.cons rfl (.cons rfl (.cons rfl .nil)))))) (.cons rfl (.cons rfl .nil)) ?_
              refine jn_seq (j_block ?_)
              refine j_loopp (ι := Nat) (fun k => ⟨[(0, .tv (rSlice (rInt .i64)) l), (1, .tv (rSlice (rInt .i64)) bd), (7, .own 70 rBucket.n 0 (hcK bd l i).length), (8, .raw (.int .i64 ((i : Nat)))), (9, .optr 9 rBucket.n 0 0), (10, .raw (.int .i64 ((k : Nat))))], [(70, ⟨rBucket, hcK bd l i⟩), (9, ⟨rBucket, [(cntB (loAt bd i) (hiAt bd i) (l.take k))]⟩)]⟩) (fun k => k ≤ l.length) (fun k => l.length - k) 0 (Nat.zero_le _) (fun a w hi => (Sub.inv ⟨(by repeat (first | exact SubS_nil | refine SubS_cons rfl (by first | rfl | (simp; done) | assumption) ?_)), (by repeat (first | exact SubH_nil | refine SubH_cons rfl (by first | rfl | (refine congrArg (HB.mk rBucket) ?_; rw [cntB_0, hlo, hhi]; rfl)) ?_))⟩ hi)) ?_
              rintro k hk1
              have hcb := cntB_bd (lo := loAt bd i) (hi := hiAt bd i) (l.take k) (fun v hv => hok v (List.mem_of_mem_take hv))
              have htl : (l.take k).length = k := by simp; omega
              rw [htl] at hcb
              refine j_seq (j_seq ?_)
              refine j_region ?_
              refine jg_adr _ rfl _ rfl rfl (op_move (.base rfl)) ?_
              refine jg_adr _ rfl _ rfl rfl (op_move (.base rfl)) ?_
              refine jg_adr _ rfl _ rfl rfl (op_len Try.underlying22 (.base rfl)) ?_
              refine jg_adr _ rfl _ rfl rfl (op_lss (.base rfl) (.base rfl)) ?_
              refine jg_nil ?_
              refine jn_keep [0, 1, 7, 8, 9, 10, 70] [9, 70] (.cons rfl (.cons rfl (.cons rfl (.cons rfl (.cons rfl (.cons rfl (.cons rfl .nil))))))) (.cons rfl (.cons rfl .nil)) ?_
              refine jn_seq ?_
              refine j_cond rfl (fun h20 => ?_) (fun h20 => ?_)
              · simp at h20
                have hv := hok _ (List.getElem_mem h20)
                have hq := List.getElem?_eq_getElem h20
                refine j_skip (jn_seq (j_seq (j_block (j_seq ?_))))
                refine j_draw mo (by kernel_rfl) (
                  AS.cons _ _ rfl (ga_adr rfl rfl rfl (op_ofield fld44_0 (.base rfl))) (
                    AS.cons _ _ rfl (ga_adr rfl rfl rfl (op_oload ty3 (.base rfl) rfl rfl ln44_0)) (
                    AS.cons _ _ rfl (ga_adr rfl rfl rfl (op_move (.base rfl))) (
                    AS.cons _ _ rfl (ga_adr rfl rfl rfl (op_move (.base rfl))) (
                    AS.cons _ _ rfl (ga_adr rfl rfl rfl (op_index Try.underlying22 ty3 (.base rfl) (.base rfl) rfl (List.getElem?_eq_getElem (by first | omega | (simp; done) | (simp; omega) | (simp at hg; omega))))) (
                    AS.cons _ _ rfl (ga_adr rfl rfl rfl (op_load ty3 (.base rfl))) (
                    AS.cons _ _ rfl (ga_adr rfl rfl rfl (op_leq (.base rfl) (.base rfl))) (
                    AS.cons _ _ rfl (ga_adr rfl rfl rfl (op_move (.base rfl))) (
                    AS.cons _ _ rfl (ga_gd _ _ _ _ rfl rfl rfl rfl rfl (fun hg => op_move (.base rfl))) (
                    AS.cons _ _ rfl (ga_gd _ _ _ _ rfl rfl rfl rfl rfl (fun hg => op_move (.base rfl))) (
                    AS.cons _ _ rfl (ga_gd _ _ _ _ rfl rfl rfl rfl rfl (fun hg => op_index Try.underlying22 ty3 (.gd rfl hg) (.gd rfl hg) rfl (getD_some (z := (0 : Int)) (by first | omega | (simp; done) | (simp; omega) | (simp at hg; omega) | (simp at hg; simp; omega))))) (
                    AS.cons _ _ rfl (ga_gd _ _ _ _ rfl rfl rfl rfl rfl (fun hg => op_load ty3 (.gd rfl hg))) (
                    AS.cons _ _ rfl (ga_gd _ _ _ _ rfl rfl rfl rfl rfl (fun hg => op_ofield fld44_1 (.base rfl))) (
                    AS.cons _ _ rfl (ga_gd _ _ _ _ rfl rfl rfl rfl rfl (fun hg => op_oload ty3 (.gd rfl hg) rfl rfl ln44_1)) (
                    AS.cons _ _ rfl (ga_gd _ _ _ _ rfl rfl rfl rfl rfl (fun hg => op_lss (.gd rfl hg) (.gd rfl hg))) (
                    AS.cons _ _ rfl (ga_adr rfl rfl rfl (op_pick_and (.base rfl) (.base rfl) rfl (by intro h; first | (rw [h]; rfl) | (rw [hg, h]; rfl) | (rw [h, hg]; rfl) | simp_all))) (
                    AS.nil))))))))))))))))) ?_
                refine jn_keep [0, 1, 7, 8, 9, 10, 88] [9, 70] (.cons rfl (.cons rfl (.cons rfl (.cons rfl (.cons rfl (.cons rfl (.cons rfl .nil))))))) (.cons rfl (.cons rfl .nil)) ?_
                refine jn_seq ?_
                refine j_cond rfl (fun h22 => ?_) (fun h22 => ?_)
                · have h22 : inH (loAt bd i) (hiAt bd i) l[k] = true := by rw [hq] at h22; exact h22
                  have hs := cntB_t h20 h22
                  refine j_seq ?_
                  refine j_region ?_
                  refine jg_adr _ rfl _ rfl rfl (op_ofield fld44_2 (.base rfl)) ?_
                  refine jg_adr _ rfl _ rfl rfl (op_oload ty3 (.base rfl) rfl rfl ln44_2) ?_
                  refine jg_adr _ rfl _ rfl rfl (op_add (.base rfl) (.base rfl) (w64 (by omega))) ?_
                  refine jg_adr _ rfl _ rfl rfl (op_ofield fld44_2 (.base rfl)) ?_
                  refine jg_os _ rfl (op_ostore ty3 (.base rfl) rfl rfl ln44_2 (.raw (.base rfl) rfl)) ?_
                  refine jg_nil ?_
                  refine jn_keep [0, 1, 7, 8, 9, 10] [9, 70] (.cons rfl (.cons rfl (.cons rfl (.cons rfl (.cons rfl (.cons rfl .nil)))))) (.cons rfl (.cons rfl .nil)) ?_
                  refine jn_seq ?_
                  refine j_drawE mo (by kernel_rfl) (
                    AE.cons _ _ _ rfl (gh_ga [9] (ga_adr rfl rfl rfl (op_ofield fld44_3 (.base rfl))) (by kernel_rfl)) (
                    AE.cons _ _ _ rfl (gh_ga [9] (ga_adr rfl rfl rfl (op_oload ty3 (.base rfl) rfl rfl ln44_3)) (by kernel_rfl)) (
                    AE.cons _ _ _ rfl (gh_ga [] (ga_adr rfl rfl rfl (op_move (.base rfl))) (by kernel_rfl)) (
                    AE.cons _ _ _ rfl (gh_ga [] (ga_adr rfl rfl rfl (op_move (.base rfl))) (by kernel_rfl)) (
                    AE.cons _ _ _ rfl (gh_ga [] (ga_adr rfl rfl rfl (op_index Try.underlying22 ty3 (.base rfl) (.base rfl) rfl (List.getElem?_eq_getElem (by first | omega | (simp; done) | (simp; omega) | (simp at hg; omega))))) (by kernel_rfl)) (
                    AE.cons _ _ _ rfl (gh_ga [] (ga_adr rfl rfl rfl (op_load ty3 (.base rfl))) (by kernel_rfl)) (
                    AE.cons _ _ _ rfl (gh_ga [] (ga_adr rfl rfl rfl (op_add (.base rfl) (.base rfl) (w64c (show _ = (cntB (loAt bd i) (hiAt bd i) (l.take k)).2.2.2 + l[k] from rfl) (by omega)))) (by kernel_rfl)) (
                    AE.cons _ _ _ rfl (gh_ga [9] (ga_adr rfl rfl rfl (op_ofield fld44_3 (.base rfl))) (by kernel_rfl)) (
                    AE.cons _ _ _ rfl (gh_store ty3 (.base rfl) rfl rfl ln44_3 (.raw (.base rfl) rfl)) (
                    AE.nil)))))))))) (by kernel_rfl) ?_
                  refine jn_keep [0, 1, 7, 8, 9, 10] [9, 70] (.cons rfl (.cons rfl (.cons rfl (.cons rfl (.cons rfl (.cons rfl .nil)))))) (.cons rfl (.cons rfl .nil)) ?_
                  refine jn_blk (jn_seq ?_)
                  refine j_region ?_
                  refine jg_adr _ rfl _ rfl rfl (op_move (.base rfl)) ?_
                  refine jg_adr _ rfl _ rfl rfl (op_add (.base rfl) (.base rfl) (w64 (by omega))) ?_
                  refine jg_adr _ rfl _ rfl rfl (op_assign (.base rfl)) ?_
                  refine jg_nil ?_
                  refine jn_keep [0, 1, 7, 8, 9, 10] [9, 70] (.cons rfl (.cons rfl (.cons rfl (.cons rfl (.cons rfl (.cons rfl .nil)))))) (.cons rfl (.cons rfl .nil)) ?_
                  exact jn_loop (fun a w hi => ⟨k + 1, (by omega), (by omega), Sub.inv ⟨(by repeat (first | exact SubS_nil | refine SubS_cons rfl (by first | rfl | (simp; done) | assumption) ?_)), (by repeat (first | exact SubH_nil | refine SubH_cons rfl (by first | rfl | (refine congrArg (HB.mk rBucket) ?_; first | (rw [hs]; done) | (rw [hs]; rfl))) ?_))⟩ hi⟩)
                · have h22 : inH (loAt bd i) (hiAt bd i) l[k] = false := by rw [hq] at h22; exact h22
                  have hs := cntB_f h20 h22
                  refine j_skip (jn_blk (jn_seq ?_))
                  refine j_region ?_
                  refine jg_adr _ rfl _ rfl rfl (op_move (.base rfl)) ?_
                  refine jg_adr _ rfl _ rfl rfl (op_add (.base rfl) (.base rfl) (w64 (by omega))) ?_
                  refine jg_adr _ rfl _ rfl rfl (op_assign (.base rfl)) ?_
                  refine jg_nil ?_
                  refine jn_keep [0, 1, 7, 8, 9, 10] [9, 70] (.cons rfl (.cons rfl (.cons rfl (.cons rfl (.cons rfl (.cons rfl .nil)))))) (.cons rfl (.cons rfl .nil)) ?_
                  exact jn_loop (fun a w hi => ⟨k + 1, (by omega), (by omega), Sub.inv ⟨(by repeat (first | exact SubS_nil | refine SubS_cons rfl (by first | rfl | (simp; done) | assumption) ?_)), (by repeat (first | exact SubH_nil | refine SubH_cons rfl (by first | rfl | (refine congrArg (HB.mk rBucket) ?_; first | (rw [hs]; done) | (rw [hs]; rfl))) ?_))⟩ hi⟩)
              · simp at h20
                obtain rfl : k = l.length := by omega
                rw [List.take_of_length_le (Nat.le_refl l.length)]
                refine j_exit (je_seq (je_loop (je_blk (jn_seq ?_))))
                refine j_region ?_
                refine jg_adr _ rfl _ rfl rfl (op_move (.base rfl)) ?_
                refine jg_adr _ rfl _ rfl rfl (op_oload ty44 (.base rfl) rfl rfl (Lens.id _)) ?_
                refine jg_adr _ rfl _ rfl rfl (op_bslice (rt := rBucket) Try.underlying28 ty44 z44 rfl (.cons (.tv (.base rfl)) .nil) rfl rfl) ?_
                refine jg_os _ rfl (op_append [0, 1, 8] Try.underlying28 ty44 z44 rfl by44 (.base rfl) rfl (by (try simp); try omega) (.tv (.base rfl)) (by unfold maxLen; (try simp); try omega) (by (try simp); try omega) rfl (.cons rfl (.cons rfl (.cons rfl .nil))) rfl) ?_
                refine jg_adr _ rfl _ rfl rfl (op_assign (.base rfl)) ?_
                refine jg_nil ?_
                refine jn_keep [0, 1, 7, 8] [70] (.cons rfl (.cons rfl (.cons rfl (.cons rfl .nil)))) (.cons rfl .nil) ?_
                refine jn_blk (jn_seq ?_)
                refine j_region ?_
                refine jg_adr _ rfl _ rfl rfl (op_move (.base rfl)) ?_
                refine jg_adr _ rfl _ rfl rfl (op_add (.base rfl) (.base rfl) (w64 (by omega))) ?_
                refine jg_adr _ rfl _ rfl rfl (op_assign (.base rfl)) ?_
                refine jg_nil ?_
                refine jn_keep [0, 1, 7, 8] [70] (.cons rfl (.cons rfl (.cons rfl (.cons rfl .nil)))) (.cons rfl .nil) ?_
                exact jn_loop (fun a w hi => ⟨i + 1, (by omega), (by omega), Sub.inv ⟨(by repeat (first | exact SubS_nil | refine SubS_cons rfl (by first | rfl | exact congrArg (SV.own 70 rBucket.n 0) (by rw [hcK_len, hcK_len]; simp)) ?_)), (by repeat (first | exact SubH_nil | refine SubH_cons rfl (by first | rfl | exact congrArg (HB.mk rBucket) (by rw [hcK_succ, List.drop_zero, List.take_of_length_le (Nat.le_refl _)])) ?_))⟩ hi⟩)
            · have h17 : i = bd.length := by simp at h17; omega
              have hhi : hiAt bd i = 1000000000000001 := by unfold hiAt; rw [if_pos h17]
              refine j_skip (jn_seq (j_seq (j_seq ?_)))
              refine j_region ?_
              refine jg_adr _ rfl _ rfl rfl (op_assign (.base rfl)) ?_
              refine jg_nil ?_
              refine jn_keep [0, 1, 7, 8, 9, 10] [9, 70] (.cons rfl (.cons rfl (.cons rfl (.cons rfl (.cons rfl (.cons rfl .nil)))))) (.cons rfl (.cons rfl .nil)) ?_
              refine jn_seq (j_block ?_)
              refine j_loopp (ι := Nat) (fun k => ⟨[(0, .tv (rSlice (rInt .i64)) l), (1, .tv (rSlice (rInt .i64)) bd), (7, .own 70 rBucket.n 0 (hcK bd l i).length), (8, .raw (.int .i64 ((i : Nat)))), (9, .optr 9 rBucket.n 0 0), (10, .raw (.int .i64 ((k : Nat))))], [(70, ⟨rBucket, hcK bd l i⟩), (9, ⟨rBucket, [(cntB (loAt bd i) (hiAt bd i) (l.take k))]⟩)]⟩) (fun k => k ≤ l.length) (fun k => l.length - k) 0 (Nat.zero_le _) (fun a w hi => (Sub.inv ⟨(by repeat (first | exact SubS_nil | refine SubS_cons rfl (by first | rfl | (simp; done) | assumption) ?_)), (by repeat (first | exact SubH_nil | refine SubH_cons rfl (by first | rfl | (refine congrArg (HB.mk rBucket) ?_; rw [cntB_0, hlo, hhi]; rfl)) ?_))⟩ hi)) ?_
              rintro k hk1
              have hcb := cntB_bd (lo := loAt bd i) (hi := hiAt bd i) (l.take k) (fun v hv => hok v (List.mem_of_mem_take hv))
              have htl : (l.take k).length = k := by simp; omega
              rw [htl] at hcb
              refine j_seq (j_seq ?_)
              refine j_region ?_
              refine jg_adr _ rfl _ rfl rfl (op_move (.base rfl)) ?_
              refine jg_adr _ rfl _ rfl rfl (op_move (.base rfl)) ?_
              refine jg_adr _ rfl _ rfl rfl (op_len Try.underlying22 (.base rfl)) ?_
              refine jg_adr _ rfl _ rfl rfl (op_lss (.base rfl) (.base rfl)) ?_
              refine jg_nil ?_
              refine jn_keep [0, 1, 7, 8, 9, 10, 70] [9, 70] (.cons rfl (.cons rfl (.cons rfl (.cons rfl (.cons rfl (.cons rfl (.cons rfl .nil))))))) (.cons rfl (.cons rfl .nil)) ?_
              refine jn_seq ?_
              refine j_cond rfl (fun h20 => ?_) (fun h20 => ?_)
              · simp at h20
                have hv := hok _ (List.getElem_mem h20)
                have hq := List.getElem?_eq_getElem h20
                refine j_skip (jn_seq (j_seq (j_block (j_seq ?_))))
                refine j_draw mo (by kernel_rfl) (
                  AS.cons _ _ rfl (ga_adr rfl rfl rfl (op_ofield fld44_0 (.base rfl))) (
                    AS.cons _ _ rfl (ga_adr rfl rfl rfl (op_oload ty3 (.base rfl) rfl rfl ln44_0)) (
                    AS.cons _ _ rfl (ga_adr rfl rfl rfl (op_move (.base rfl))) (
                    AS.cons _ _ rfl (ga_adr rfl rfl rfl (op_move (.base rfl))) (
                    AS.cons _ _ rfl (ga_adr rfl rfl rfl (op_index Try.underlying22 ty3 (.base rfl) (.base rfl) rfl (List.getElem?_eq_getElem (by first | omega | (simp; done) | (simp; omega) | (simp at hg; omega))))) (
                    AS.cons _ _ rfl (ga_adr rfl rfl rfl (op_load ty3 (.base rfl))) (
                    AS.cons _ _ rfl (ga_adr rfl rfl rfl (op_leq (.base rfl) (.base rfl))) (
                    AS.cons _ _ rfl (ga_adr rfl rfl rfl (op_move (.base rfl))) (
                    AS.cons _ _ rfl (ga_gd _ _ _ _ rfl rfl rfl rfl rfl (fun hg => op_move (.base rfl))) (
                    AS.cons _ _ rfl (ga_gd _ _ _ _ rfl rfl rfl rfl rfl (fun hg => op_move (.base rfl))) (
                    AS.cons _ _ rfl (ga_gd _ _ _ _ rfl rfl rfl rfl rfl (fun hg => op_index Try.underlying22 ty3 (.gd rfl hg) (.gd rfl hg) rfl (getD_some (z := (0 : Int)) (by first | omega | (simp; done) | (simp; omega) | (simp at hg; omega) | (simp at hg; simp; omega))))) (
                    AS.cons _ _ rfl (ga_gd _ _ _ _ rfl rfl rfl rfl rfl (fun hg => op_load ty3 (.gd rfl hg))) (
                    AS.cons _ _ rfl (ga_gd _ _ _ _ rfl rfl rfl rfl rfl (fun hg => op_ofield fld44_1 (.base rfl))) (
                    AS.cons _ _ rfl (ga_gd _ _ _ _ rfl rfl rfl rfl rfl (fun hg => op_oload ty3 (.gd rfl hg) rfl rfl ln44_1)) (
                    AS.cons _ _ rfl (ga_gd _ _ _ _ rfl rfl rfl rfl rfl (fun hg => op_lss (.gd rfl hg) (.gd rfl hg))) (
                    AS.cons _ _ rfl (ga_adr rfl rfl rfl (op_pick_and (.base rfl) (.base rfl) rfl (by intro h; first | (rw [h]; rfl) | (rw [hg, h]; rfl) | (rw [h, hg]; rfl) | simp_all))) (
                    AS.nil))))))))))))))))) ?_
                refine jn_keep [0, 1, 7, 8, 9, 10, 88] [9, 70] (.cons rfl (.cons rfl (.cons rfl (.cons rfl (.cons rfl (.cons rfl (.cons rfl .nil))))))) (.cons rfl (.cons rfl .nil)) ?_
                refine jn_seq ?_
                refine j_cond rfl (fun h22 => ?_) (fun h22 => ?_)
                · have h22 : inH (loAt bd i) (hiAt bd i) l[k] = true := by rw [hq] at h22; exact h22
                  have hs := cntB_t h20 h22
                  refine j_seq ?_
                  refine j_region ?_
                  refine jg_adr _ rfl _ rfl rfl (op_ofield fld44_2 (.base rfl)) ?_
                  refine jg_adr _ rfl _ rfl rfl (op_oload ty3 (.base rfl) rfl rfl ln44_2) ?_
                  refine jg_adr _ rfl _ rfl rfl (op_add (.base rfl) (.base rfl) (w64 (by omega))) ?_
                  refine jg_adr _ rfl _ rfl rfl (op_ofield fld44_2 (.base rfl)) ?_
                  refine jg_os _ rfl (op_ostore ty3 (.base rfl) rfl rfl ln44_2 (.raw (.base rfl) rfl)) ?_
                  refine jg_nil ?_
                  refine jn_keep [0, 1, 7, 8, 9, 10] [9, 70] (.cons rfl (.cons rfl (.cons rfl (.cons rfl (.cons rfl (.cons rfl .nil)))))) (.cons rfl (.cons rfl .nil)) ?_
                  refine jn_seq ?_
                  refine j_drawE mo (by kernel_rfl) (
                    AE.cons _ _ _ rfl (gh_ga [9] (ga_adr rfl rfl rfl (op_ofield fld44_3 (.base rfl))) (by kernel_rfl)) (
                    AE.cons _ _ _ rfl (gh_ga [9] (ga_adr rfl rfl rfl (op_oload ty3 (.base rfl) rfl rfl ln44_3)) (by kernel_rfl)) (
                    AE.cons _ _ _ rfl (gh_ga [] (ga_adr rfl rfl rfl (op_move (.base rfl))) (by kernel_rfl)) (
                    AE.cons _ _ _ rfl (gh_ga [] (ga_adr rfl rfl rfl (op_move (.base rfl))) (by kernel_rfl)) (
                    AE.cons _ _ _ rfl (gh_ga [] (ga_adr rfl rfl rfl (op_index Try.underlying22 ty3 (.base rfl) (.base rfl) rfl (List.getElem?_eq_getElem (by first | omega | (simp; done) | (simp; omega) | (simp at hg; omega))))) (by kernel_rfl)) (
                    AE.cons _ _ _ rfl (gh_ga [] (ga_adr rfl rfl rfl (op_load ty3 (.base rfl))) (by kernel_rfl)) (
                    AE.cons _ _ _ rfl (gh_ga [] (ga_adr rfl rfl rfl (op_add (.base rfl) (.base rfl) (w64c (show _ = (cntB (loAt bd i) (hiAt bd i) (l.take k)).2.2.2 + l[k] from rfl) (by omega)))) (by kernel_rfl)) (
                    AE.cons _ _ _ rfl (gh_ga [9] (ga_adr rfl rfl rfl (op_ofield fld44_3 (.base rfl))) (by kernel_rfl)) (
                    AE.cons _ _ _ rfl (gh_store ty3 (.base rfl) rfl rfl ln44_3 (.raw (.base rfl) rfl)) (
                    AE.nil)))))))))) (by kernel_rfl) ?_
                  refine jn_keep [0, 1, 7, 8, 9, 10] [9, 70] (.cons rfl (.cons rfl (.cons rfl (.cons rfl (.cons rfl (.cons rfl .nil)))))) (.cons rfl (.cons rfl .nil)) ?_
                  refine jn_blk (jn_seq ?_)
                  refine j_region ?_
                  refine jg_adr _ rfl _ rfl rfl (op_move (.base rfl)) ?_
                  refine jg_adr _ rfl _ rfl rfl (op_add (.base rfl) (.base rfl) (w64 (by omega))) ?_
                  refine jg_adr _ rfl _ rfl rfl (op_assign (.base rfl)) ?_
                  refine jg_nil ?_
                  refine jn_keep [0, 1, 7, 8, 9, 10] [9, 70] (.cons rfl (.cons rfl (.cons rfl (.cons rfl (.cons rfl (.cons rfl .nil)))))) (.cons rfl (.cons rfl .nil)) ?_
                  exact jn_loop (fun a w hi => ⟨k + 1, (by omega), (by omega), Sub.inv ⟨(by repeat (first | exact SubS_nil | refine SubS_cons rfl (by first | rfl | (simp; done) | assumption) ?_)), (by repeat (first | exact SubH_nil | refine SubH_cons rfl (by first | rfl | (refine congrArg (HB.mk rBucket) ?_; first | (rw [hs]; done) | (rw [hs]; rfl))) ?_))⟩ hi⟩)
                · have h22 : inH (loAt bd i) (hiAt bd i) l[k] = false := by rw [hq] at h22; exact h22
                  have hs := cntB_f h20 h22
                  refine j_skip (jn_blk (jn_seq ?_))
                  refine j_region ?_
                  refine jg_adr _ rfl _ rfl rfl (op_move (.base rfl)) ?_
                  refine jg_adr _ rfl _ rfl rfl (op_add (.base rfl) (.base rfl) (w64 (by omega))) ?_
                  refine jg_adr _ rfl _ rfl rfl (op_assign (.base rfl)) ?_
                  refine jg_nil ?_
                  refine jn_keep [0, 1, 7, 8, 9, 10] [9, 70] (.cons rfl (.cons rfl (.cons rfl (.cons rfl (.cons rfl (.cons rfl .nil)))))) (.cons rfl (.cons rfl .nil)) ?_
                  exact jn_loop (fun a w hi => ⟨k + 1, (by omega), (by omega), Sub.inv ⟨(by repeat (first | exact SubS_nil | refine SubS_cons rfl (by first | rfl | (simp; done) | assumption) ?_)), (by repeat (first | exact SubH_nil | refine SubH_cons rfl (by first | rfl | (refine congrArg (HB.mk rBucket) ?_; first | (rw [hs]; done) | (rw [hs]; rfl))) ?_))⟩ hi⟩)
              · simp at h20
                obtain rfl : k = l.length := by omega
                rw [List.take_of_length_le (Nat.le_refl l.length)]
                refine j_exit (je_seq (je_loop (je_blk (jn_seq ?_))))
                refine j_region ?_
                refine jg_adr _ rfl _ rfl rfl (op_move (.base rfl)) ?_
                refine jg_adr _ rfl _ rfl rfl (op_oload ty44 (.base rfl) rfl rfl (Lens.id _)) ?_
                refine jg_adr _ rfl _ rfl rfl (op_bslice (rt := rBucket) Try.underlying28 ty44 z44 rfl (.cons (.tv (.base rfl)) .nil) rfl rfl) ?_
                refine jg_os _ rfl (op_append [0, 1, 8] Try.underlying28 ty44 z44 rfl by44 (.base rfl) rfl (by (try simp); try omega) (.tv (.base rfl)) (by unfold maxLen; (try simp); try omega) (by (try simp); try omega) rfl (.cons rfl (.cons rfl (.cons rfl .nil))) rfl) ?_
                refine jg_adr _ rfl _ rfl rfl (op_assign (.base rfl)) ?_
                refine jg_nil ?_
                refine jn_keep [0, 1, 7, 8] [70] (.cons rfl (.cons rfl (.cons rfl (.cons rfl .nil)))) (.cons rfl .nil) ?_
                refine jn_blk (jn_seq ?_)
                refine j_region ?_
                refine jg_adr _ rfl _ rfl rfl (op_move (.base rfl)) ?_
                refine jg_adr _ rfl _ rfl rfl (op_add (.base rfl) (.base rfl) (w64 (by omega))) ?_
                refine jg_adr _ rfl _ rfl rfl (op_assign (.base rfl)) ?_
                refine jg_nil ?_
                refine jn_keep [0, 1, 7, 8] [70] (.cons rfl (.cons rfl (.cons rfl (.cons rfl .nil)))) (.cons rfl .nil) ?_
                exact jn_loop (fun a w hi => ⟨i + 1, (by omega), (by omega), Sub.inv ⟨(by repeat (first | exact SubS_nil | refine SubS_cons rfl (by first | rfl | exact congrArg (SV.own 70 rBucket.n 0) (by rw [hcK_len, hcK_len]; simp)) ?_)), (by repeat (first | exact SubH_nil | refine SubH_cons rfl (by first | rfl | exact congrArg (HB.mk rBucket) (by rw [hcK_succ, List.drop_zero, List.take_of_length_le (Nat.le_refl _)])) ?_))⟩ hi⟩)
          · have h15 : i = 0 := by simp at h15; omega
            have hlo : loAt bd i = -1000000000000000 := by unfold loAt; rw [if_pos h15]
            refine j_skip (jn_seq (j_seq (j_seq ?_)))
            refine j_region ?_
            refine jg_adr _ rfl _ rfl rfl (op_move (.base rfl)) ?_
            refine jg_adr _ rfl _ rfl rfl (op_move (.base rfl)) ?_
            refine jg_adr _ rfl _ rfl rfl (op_len Try.underlying22 (.base rfl)) ?_
            refine jg_adr _ rfl _ rfl rfl (op_lss (.base rfl) (.base rfl)) ?_
            refine jg_nil ?_
            refine jn_keep [0, 1, 7, 8, 9, 61] [9, 70] (.cons rfl (.cons rfl (.cons rfl (.cons rfl (.cons rfl (.cons rfl .nil)))))) (.cons rfl (.cons rfl .nil)) ?_
            refine jn_seq ?_
            refine j_cond rfl (fun h17 => ?_) (fun h17 => ?_)
            · have h17 : i < bd.length := by simpa using h17
              have hhi : hiAt bd i = bd[i] := by unfold hiAt; rw [if_neg (by omega), bd_get h17]
              refine j_region ?_
              refine jg_adr _ rfl _ rfl rfl (op_move (.base rfl)) ?_
              refine jg_adr _ rfl _ rfl rfl (op_move (.base rfl)) ?_
              refine jg_adr _ rfl _ rfl rfl (op_index Try.underlying22 ty3 (.base rfl) (.base rfl) rfl (List.getElem?_eq_getElem (by first | omega | (simp; done) | (simp; omega) | (simp at hg; omega)))) ?_
              refine jg_adr _ rfl _ rfl rfl (op_load ty3 (.base rfl)) ?_
              refine jg_adr _ rfl _ rfl rfl (op_ofield fld44_1 (.base rfl)) ?_
              refine jg_os _ rfl (op_ostore ty3 (.base rfl) rfl rfl ln44_1 (.raw (.base rfl) rfl)) ?_
              refine jg_nil ?_
              refine jn_keep [0, 1, 7, 8, 9] [9, 70] (.cons rfl (.cons rfl (.cons rfl (.cons rfl (.cons rfl .nil))))) (.cons rfl (.cons rfl .nil)) ?_
              refine jn_seq (j_seq (j_seq ?_))
              refine j_region ?_
              refine jg_adr _ rfl _ rfl rfl (op_assign (.base rfl)) ?_
              refine jg_nil ?_
              refine jn_keep [0, 1, 7, 8, 9, 10] [9, 70] (.cons rfl (.cons rfl (.cons rfl (.cons rfl (.cons rfl (.cons rfl .nil)))))) (.cons rfl (.cons rfl .nil)) ?_
              refine jn_seq (j_block ?_)
              refine j_loopp (ι := Nat) (fun k => ⟨[(0, .tv (rSlice (rInt .i64)) l), (1, .tv (rSlice (rInt .i64)) bd), (7, .own 70 rBucket.n 0 (hcK bd l i).length), (8, .raw (.int .i64 ((i : Nat)))), (9, .optr 9 rBucket.n 0 0), (10, .raw (.int .i64 ((k : Nat))))], [(70, ⟨rBucket, hcK bd l i⟩), (9, ⟨rBucket, [(cntB (loAt bd i) (hiAt bd i) (l.take k))]⟩)]⟩) (fun k => k ≤ l.length) (fun k => l.length - k) 0 (Nat.zero_le _) (fun a w hi => (Sub.inv ⟨(by repeat (first | exact SubS_nil | refine SubS_cons rfl (by first | rfl | (simp; done) | assumption) ?_)), (by repeat (first | exact SubH_nil | refine SubH_cons rfl (by first | rfl | (refine congrArg (HB.mk rBucket) ?_; rw [cntB_0, hlo, hhi]; rfl)) ?_))⟩ hi)) ?_
              rintro k hk1
              have hcb := cntB_bd (lo := loAt bd i) (hi := hiAt bd i) (l.take k) (fun v hv => hok v (List.mem_of_mem_take hv))
              have htl : (l.take k).length = k := by simp; omega
              rw [htl] at hcb
              refine j_seq (j_seq ?_)
              refine j_region ?_
              refine jg_adr _ rfl _ rfl rfl (op_move (.base rfl)) ?_
              refine jg_adr _ rfl _ rfl rfl (op_move (.base rfl)) ?_
              refine jg_adr _ rfl _ rfl rfl (op_len Try.underlying22 (.base rfl)) ?_
              refine jg_adr _ rfl _ rfl rfl (op_lss (.base rfl) (.base rfl)) ?_
              refine jg_nil ?_
              refine jn_keep [0, 1, 7, 8, 9, 10, 70] [9, 70] (.cons rfl (.cons rfl (.cons rfl (.cons rfl (.cons rfl (.cons rfl (.cons rfl .nil))))))) (.cons rfl (.cons rfl .nil)) ?_
              refine jn_seq ?_
              refine j_cond rfl (fun h20 => ?_) (fun h20 => ?_)
              · simp at h20
                have hv := hok _ (List.getElem_mem h20)
                have hq := List.getElem?_eq_getElem h20
                refine j_skip (jn_seq (j_seq (j_block (j_seq ?_))))
                refine j_draw mo (by kernel_rfl) (
                  AS.cons _ _ rfl (ga_adr rfl rfl rfl (op_ofield fld44_0 (.base rfl))) (
                    AS.cons _ _ rfl (ga_adr rfl rfl rfl (op_oload ty3 (.base rfl) rfl rfl ln44_0)) (
                    AS.cons _ _ rfl (ga_adr rfl rfl rfl (op_move (.base rfl))) (
                    AS.cons _ _ rfl (ga_adr rfl rfl rfl (op_move (.base rfl))) (
                    AS.cons _ _ rfl (ga_adr rfl rfl rfl (op_index Try.underlying22 ty3 (.base rfl) (.base rfl) rfl (List.getElem?_eq_getElem (by first | omega | (simp; done) | (simp; omega) | (simp at hg; omega))))) (
                    AS.cons _ _ rfl (ga_adr rfl rfl rfl (op_load ty3 (.base rfl))) (
                    AS.cons _ _ rfl (ga_adr rfl rfl rfl (op_leq (.base rfl) (.base rfl))) (
                    AS.cons _ _ rfl (ga_adr rfl rfl rfl (op_move (.base rfl))) (
                    AS.cons _ _ rfl (ga_gd _ _ _ _ rfl rfl rfl rfl rfl (fun hg => op_move (.base rfl))) (
                    AS.cons _ _ rfl (ga_gd _ _ _ _ rfl rfl rfl rfl rfl (fun hg => op_move (.base rfl))) (
                    AS.cons _ _ rfl (ga_gd _ _ _ _ rfl rfl rfl rfl rfl (fun hg => op_index Try.underlying22 ty3 (.gd rfl hg) (.gd rfl hg) rfl (getD_some (z := (0 : Int)) (by first | omega | (simp; done) | (simp; omega) | (simp at hg; omega) | (simp at hg; simp; omega))))) (
                    AS.cons _ _ rfl (ga_gd _ _ _ _ rfl rfl rfl rfl rfl (fun hg => op_load ty3 (.gd rfl hg))) (
                    AS.cons _ _ rfl (ga_gd _ _ _ _ rfl rfl rfl rfl rfl (fun hg => op_ofield fld44_1 (.base rfl))) (
                    AS.cons _ _ rfl (ga_gd _ _ _ _ rfl rfl rfl rfl rfl (fun hg => op_oload ty3 (.gd rfl hg) rfl rfl ln44_1)) (
                    AS.cons _ _ rfl (ga_gd _ _ _ _ rfl rfl rfl rfl rfl (fun hg => op_lss (.gd rfl hg) (.gd rfl hg))) (
                    AS.cons _ _ rfl (ga_adr rfl rfl rfl (op_pick_and (.base rfl) (.base rfl) rfl (by intro h; first | (rw [h]; rfl) | (rw [hg, h]; rfl) | (rw [h, hg]; rfl) | simp_all))) (
                    AS.nil))))))))))))))))) ?_
                refine jn_keep [0, 1, 7, 8, 9, 10, 88] [9, 70] (.cons rfl (.cons rfl (.cons rfl (.cons rfl (.cons rfl (.cons rfl (.cons rfl .nil))))))) (.cons rfl (.cons rfl .nil)) ?_
                refine jn_seq ?_
                refine j_cond rfl (fun h22 => ?_) (fun h22 => ?_)
                · have h22 : inH (loAt bd i) (hiAt bd i) l[k] = true := by rw [hq] at h22; exact h22
                  have hs := cntB_t h20 h22
                  refine j_seq ?_
                  refine j_region ?_
                  refine jg_adr _ rfl _ rfl rfl (op_ofield fld44_2 (.base rfl)) ?_
                  refine jg_adr _ rfl _ rfl rfl (op_oload ty3 (.base rfl) rfl rfl ln44_2) ?_
                  refine jg_adr _ rfl _ rfl rfl (op_add (.base rfl) (.base rfl) (w64 (by omega))) ?_
                  refine jg_adr _ rfl _ rfl rfl (op_ofield fld44_2 (.base rfl)) ?_
                  refine jg_os _ rfl (op_ostore ty3 (.base rfl) rfl rfl ln44_2 (.raw (.base rfl) rfl)) ?_
                  refine jg_nil ?_
                  refine jn_keep [0, 1, 7, 8, 9, 10] [9, 70] (.cons rfl (.cons rfl (.cons rfl (.cons rfl (.cons rfl (.cons rfl .nil)))))) (.cons rfl (.cons rfl .nil)) ?_
                  refine jn_seq ?_
                  refine j_drawE mo (by kernel_rfl) (
                    AE.cons _ _ _ rfl (gh_ga [9] (ga_adr rfl rfl rfl (op_ofield fld44_3 (.base rfl))) (by kernel_rfl)) (
                    AE.cons _ _ _ rfl (gh_ga [9] (ga_adr rfl rfl rfl (op_oload ty3 (.base rfl) rfl rfl ln44_3)) (by kernel_rfl)) (
                    AE.cons _ _ _ rfl (gh_ga [] (ga_adr rfl rfl rfl (op_move (.base rfl))) (by kernel_rfl)) (
                    AE.cons _ _ _ rfl (gh_ga [] (ga_adr rfl rfl rfl (op_move (.base rfl))) (by kernel_rfl)) (
                    AE.cons _ _ _ rfl (gh_ga [] (ga_adr rfl rfl rfl (op_index Try.underlying22 ty3 (.base rfl) (.base rfl) rfl (List.getElem?_eq_getElem (by first | omega | (simp; done) | (simp; omega) | (simp at hg; omega))))) (by kernel_rfl)) (
                    AE.cons _ _ _ rfl (gh_ga [] (ga_adr rfl rfl rfl (op_load ty3 (.base rfl))) (by kernel_rfl)) (
                    AE.cons _ _ _ rfl (gh_ga [] (ga_adr rfl rfl rfl (op_add (.base rfl) (.base rfl) (w64c (show _ = (cntB (loAt bd i) (hiAt bd i) (l.take k)).2.2.2 + l[k] from rfl) (by omega)))) (by kernel_rfl)) (
                    AE.cons _ _ _ rfl (gh_ga [9] (ga_adr rfl rfl rfl (op_ofield fld44_3 (.base rfl))) (by kernel_rfl)) (
                    AE.cons _ _ _ rfl (gh_store ty3 (.base rfl) rfl rfl ln44_3 (.raw (.base rfl) rfl)) (
                    AE.nil)))))))))) (by kernel_rfl) ?_
                  refine jn_keep [0, 1, 7, 8, 9, 10] [9, 70] (.cons rfl (.cons rfl (.cons rfl (.cons rfl (.cons rfl (.cons rfl .nil)))))) (.cons rfl (.cons rfl .nil)) ?_
                  refine jn_blk (jn_seq ?_)
                  refine j_region ?_
                  refine jg_adr _ rfl _ rfl rfl (op_move (.base rfl)) ?_
                  refine jg_adr _ rfl _ rfl rfl (op_add (.base rfl) (.base rfl) (w64 (by omega))) ?_
                  refine jg_adr _ rfl _ rfl rfl (op_assign (.base rfl)) ?_
                  refine jg_nil ?_
                  refine jn_keep [0, 1, 7, 8, 9, 10] [9, 70] (.cons rfl (.cons rfl (.cons rfl (.cons rfl (.cons rfl (.cons rfl .nil)))))) (.cons rfl (.cons rfl .nil)) ?_
                  exact jn_loop (fun a w hi => ⟨k + 1, (by omega), (by omega), Sub.inv ⟨(by repeat (first | exact SubS_nil | refine SubS_cons rfl (by first | rfl | (simp; done) | assumption) ?_)), (by repeat (first | exact SubH_nil | refine SubH_cons rfl (by first | rfl | (refine congrArg (HB.mk rBucket) ?_; first | (rw [hs]; done) | (rw [hs]; rfl))) ?_))⟩ hi⟩)
                · have h22 : inH (loAt bd i) (hiAt bd i) l[k] = false := by rw [hq] at h22; exact h22
                  have hs := cntB_f h20 h22
                  refine j_skip (jn_blk (jn_seq ?_))
                  refine j_region ?_
                  refine jg_adr _ rfl _ rfl rfl (op_move (.base rfl)) ?_
                  refine jg_adr _ rfl _ rfl rfl (op_add (.base rfl) (.base rfl) (w64 (by omega))) ?_
                  refine jg_adr _ rfl _ rfl rfl (op_assign (.base rfl)) ?_
                  refine jg_nil ?_
                  refine jn_keep [0, 1, 7, 8, 9, 10] [9, 70] (.cons rfl (.cons rfl (.cons rfl (.cons rfl (.cons rfl (.cons rfl .nil)))))) (.cons rfl (.cons rfl .nil)) ?_
                  exact jn_loop (fun a w hi => ⟨k + 1, (by omega), (by omega), Sub.inv ⟨(by repeat (first | exact SubS_nil | refine SubS_cons rfl (by first | rfl | (simp; done) | assumption) ?_)), (by repeat (first | exact SubH_nil | refine SubH_cons rfl (by first | rfl | (refine congrArg (HB.mk rBucket) ?_; first | (rw [hs]; done) | (rw [hs]; rfl))) ?_))⟩ hi⟩)
              · simp at h20
                obtain rfl : k = l.length := by omega
                rw [List.take_of_length_le (Nat.le_refl l.length)]
                refine j_exit (je_seq (je_loop (je_blk (jn_seq ?_))))
                refine j_region ?_
                refine jg_adr _ rfl _ rfl rfl (op_move (.base rfl)) ?_
                refine jg_adr _ rfl _ rfl rfl (op_oload ty44 (.base rfl) rfl rfl (Lens.id _)) ?_
                refine jg_adr _ rfl _ rfl rfl (op_bslice (rt := rBucket) Try.underlying28 ty44 z44 rfl (.cons (.tv (.base rfl)) .nil) rfl rfl) ?_
                refine jg_os _ rfl (op_append [0, 1, 8] Try.underlying28 ty44 z44 rfl by44 (.base rfl) rfl (by (try simp); try omega) (.tv (.base rfl)) (by unfold maxLen; (try simp); try omega) (by (try simp); try omega) rfl (.cons rfl (.cons rfl (.cons rfl .nil))) rfl) ?_
                refine jg_adr _ rfl _ rfl rfl (op_assign (.base rfl)) ?_
                refine jg_nil ?_
                refine jn_keep [0, 1, 7, 8] [70] (.cons rfl (.cons rfl (.cons rfl (.cons rfl .nil)))) (.cons rfl .nil) ?_
                refine jn_blk (jn_seq ?_)
                refine j_region ?_
                refine jg_adr _ rfl _ rfl rfl (op_move (.base rfl)) ?_
                refine jg_adr _ rfl _ rfl rfl (op_add (.base rfl) (.base rfl) (w64 (by omega))) ?_
                refine jg_adr _ rfl _ rfl rfl (op_assign (.base rfl)) ?_
                refine jg_nil ?_
                refine jn_keep [0, 1, 7, 8] [70] (.cons rfl (.cons rfl (.cons rfl (.cons rfl .nil)))) (.cons rfl .nil) ?_
                exact jn_loop (fun a w hi => ⟨i + 1, (by omega), (by omega), Sub.inv ⟨(by repeat (first | exact SubS_nil | refine SubS_cons rfl (by first | rfl | exact congrArg (SV.own 70 rBucket.n 0) (by rw [hcK_len, hcK_len]; simp)) ?_)), (by repeat (first | exact SubH_nil | refine SubH_cons rfl (by first | rfl | exact congrArg (HB.mk rBucket) (by rw [hcK_succ, List.drop_zero, List.take_of_length_le (Nat.le_refl _)])) ?_))⟩ hi⟩)
            · have h17 : i = bd.length := by simp at h17; omega
              have hhi : hiAt bd i = 1000000000000001 := by unfold hiAt; rw [if_pos h17]
              refine j_skip (jn_seq (j_seq (j_seq ?_)))
              refine j_region ?_
              refine jg_adr _ rfl _ rfl rfl (op_assign (.base rfl)) ?_
              refine jg_nil ?_
              refine jn_keep [0, 1, 7, 8, 9, 10] [9, 70] (.cons rfl (.cons rfl (.cons rfl (.cons rfl (.cons rfl (.cons rfl .nil)))))) (.cons rfl (.cons rfl .nil)) ?_
              refine jn_seq (j_block ?_)
              refine j_loopp (ι := Nat) (fun k => ⟨[(0, .tv (rSlice (rInt .i64)) l), (1, .tv (rSlice (rInt .i64)) bd), (7, .own 70 rBucket.n 0 (hcK bd l i).length), (8, .raw (.int .i64 ((i : Nat)))), (9, .optr 9 rBucket.n 0 0), (10, .raw (.int .i64 ((k : Nat))))], [(70, ⟨rBucket, hcK bd l i⟩), (9, ⟨rBucket, [(cntB (loAt bd i) (hiAt bd i) (l.take k))]⟩)]⟩) (fun k => k ≤ l.length) (fun k => l.length - k) 0 (Nat.zero_le _) (fun a w hi => (Sub.inv ⟨(by repeat (first | exact SubS_nil | refine SubS_cons rfl (by first | rfl | (simp; done) | assumption) ?_)), (by repeat (first | exact SubH_nil | refine SubH_cons rfl (by first | rfl | (refine congrArg (HB.mk rBucket) ?_; rw [cntB_0, hlo, hhi]; rfl)) ?_))⟩ hi)) ?_
              rintro k hk1
              have hcb := cntB_bd (lo := loAt bd i) (hi := hiAt bd i) (l.take k) (fun v hv => hok v (List.mem_of_mem_take hv))
              have htl : (l.take k).length = k := by simp; omega
              rw [htl] at hcb
              refine j_seq (j_seq ?_)
              refine j_region ?_
              refine jg_adr _ rfl _ rfl rfl (op_move (.base rfl)) ?_
              refine jg_adr _ rfl _ rfl rfl (op_move (.base rfl)) ?_
              refine jg_adr _ rfl _ rfl rfl (op_len Try.underlying22 (.base rfl)) ?_
              refine jg_adr _ rfl _ rfl rfl (op_lss (.base rfl) (.base rfl)) ?_
              refine jg_nil ?_
              refine jn_keep [0, 1, 7, 8, 9, 10, 70] [9, 70] (.cons rfl (.cons rfl (.cons rfl (.cons rfl (.cons rfl (.cons rfl (.cons rfl .nil))))))) (.cons rfl (.cons rfl .nil)) ?_
              refine jn_seq ?_
              refine j_cond rfl (fun h20 => ?_) (fun h20 => ?_)
              · simp at h20
                have hv := hok _ (List.getElem_mem h20)
                have hq := List.getElem?_eq_getElem h20
                refine j_skip (jn_seq (j_seq (j_block (j_seq ?_))))
                refine j_draw mo (by kernel_rfl) (
                  AS.cons _ _ rfl (ga_adr rfl rfl rfl (op_ofield fld44_0 (.base rfl))) (
                    AS.cons _ _ rfl (ga_adr rfl rfl rfl (op_oload ty3 (.base rfl) rfl rfl ln44_0)) (
                    AS.cons _ _ rfl (ga_adr rfl rfl rfl (op_move (.base rfl))) (
                    AS.cons _ _ rfl (ga_adr rfl rfl rfl (op_move (.base rfl))) (
                    AS.cons _ _ rfl (ga_adr rfl rfl rfl (op_index Try.underlying22 ty3 (.base rfl) (.base rfl) rfl (List.getElem?_eq_getElem (by first | omega | (simp; done) | (simp; omega) | (simp at hg; omega))))) (
                    AS.cons _ _ rfl (ga_adr rfl rfl rfl (op_load ty3 (.base rfl))) (
                    AS.cons _ _ rfl (ga_adr rfl rfl rfl (op_leq (.base rfl) (.base rfl))) (
                    AS.cons _ _ rfl (ga_adr rfl rfl rfl (op_move (.base rfl))) (
                    AS.cons _ _ rfl (ga_gd _ _ _ _ rfl rfl rfl rfl rfl (fun hg => op_move (.base rfl))) (
                    AS.cons _ _ rfl (ga_gd _ _ _ _ rfl rfl rfl rfl rfl (fun hg => op_move (.base rfl))) (
                    AS.cons _ _ rfl (ga_gd _ _ _ _ rfl rfl rfl rfl rfl (fun hg => op_index Try.underlying22 ty3 (.gd rfl hg) (.gd rfl hg) rfl (getD_some (z := (0 : Int)) (by first | omega | (simp; done) | (simp; omega) | (simp at hg; omega) | (simp at hg; simp; omega))))) (
                    AS.cons _ _ rfl (ga_gd _ _ _ _ rfl rfl rfl rfl rfl (fun hg => op_load ty3 (.gd rfl hg))) (
                    AS.cons _ _ rfl (ga_gd _ _ _ _ rfl rfl rfl rfl rfl (fun hg => op_ofield fld44_1 (.base rfl))) (
                    AS.cons _ _ rfl (ga_gd _ _ _ _ rfl rfl rfl rfl rfl (fun hg => op_oload ty3 (.gd rfl hg) rfl rfl ln44_1)) (
                    AS.cons _ _ rfl (ga_gd _ _ _ _ rfl rfl rfl rfl rfl (fun hg => op_lss (.gd rfl hg) (.gd rfl hg))) (
                    AS.cons _ _ rfl (ga_adr rfl rfl rfl (op_pick_and (.base rfl) (.base rfl) rfl (by intro h; first | (rw [h]; rfl) | (rw [hg, h]; rfl) | (rw [h, hg]; rfl) | simp_all))) (
                    AS.nil))))))))))))))))) ?_
                refine jn_keep [0, 1, 7, 8, 9, 10, 88] [9, 70] (.cons rfl (.cons rfl (.cons rfl (.cons rfl (.cons rfl (.cons rfl (.cons rfl .nil))))))) (.cons rfl (.cons rfl .nil)) ?_
                refine jn_seq ?_
                refine j_cond rfl (fun h22 => ?_) (fun h22 => ?_)
                · have h22 : inH (loAt bd i) (hiAt bd i) l[k] = true := by rw [hq] at h22; exact h22
                  have hs := cntB_t h20 h22
                  refine j_seq ?_
                  refine j_region ?_
                  refine jg_adr _ rfl _ rfl rfl (op_ofield fld44_2 (.base rfl)) ?_
                  refine jg_adr _ rfl _ rfl rfl (op_oload ty3 (.base rfl) rfl rfl ln44_2) ?_
                  refine jg_adr _ rfl _ rfl rfl (op_add (.base rfl) (.base rfl) (w64 (by omega))) ?_
                  refine jg_adr _ rfl _ rfl rfl (op_ofield fld44_2 (.base rfl)) ?_
                  refine jg_os _ rfl (op_ostore ty3 (.base rfl) rfl rfl ln44_2 (.raw (.base rfl) rfl)) ?_
                  refine jg_nil ?_
                  refine jn_keep [0, 1, 7, 8, 9, 10] [9, 70] (.cons rfl (.cons rfl (.cons rfl (.cons rfl (.cons rfl (.cons rfl .nil)))))) (.cons rfl (.cons rfl .nil)) ?_
                  refine jn_seq ?_
                  refine j_drawE mo (by kernel_rfl) (
                    AE.cons _ _ _ rfl (gh_ga [9] (ga_adr rfl rfl rfl (op_ofield fld44_3 (.base rfl))) (by kernel_rfl)) (
                    AE.cons _ _ _ rfl (gh_ga [9] (ga_adr rfl rfl rfl (op_oload ty3 (.base rfl) rfl rfl ln44_3)) (by kernel_rfl)) (
                    AE.cons _ _ _ rfl (gh_ga [] (ga_adr rfl rfl rfl (op_move (.base rfl))) (by kernel_rfl)) (
                    AE.cons _ _ _ rfl (gh_ga [] (ga_adr rfl rfl rfl (op_move (.base rfl))) (by kernel_rfl)) (
                    AE.cons _ _ _ rfl (gh_ga [] (ga_adr rfl rfl rfl (op_index Try.underlying22 ty3 (.base rfl) (.base rfl) rfl (List.getElem?_eq_getElem (by first | omega | (simp; done) | (simp; omega) | (simp at hg; omega))))) (by kernel_rfl)) (
                    AE.cons _ _ _ rfl (gh_ga [] (ga_adr rfl rfl rfl (op_load ty3 (.base rfl))) (by kernel_rfl)) (
                    AE.cons _ _ _ rfl (gh_ga [] (ga_adr rfl rfl rfl (op_add (.base rfl) (.base rfl) (w64c (show _ = (cntB (loAt bd i) (hiAt bd i) (l.take k)).2.2.2 + l[k] from rfl) (by omega)))) (by kernel_rfl)) (
                    AE.cons _ _ _ rfl (gh_ga [9] (ga_adr rfl rfl rfl (op_ofield fld44_3 (.base rfl))) (by kernel_rfl)) (
                    AE.cons _ _ _ rfl (gh_store ty3 (.base rfl) rfl rfl ln44_3 (.raw (.base rfl) rfl)) (
                    AE.nil)))))))))) (by kernel_rfl) ?_
                  refine jn_keep [0, 1, 7, 8, 9, 10] [9, 70] (.cons rfl (.cons rfl (.cons rfl (.cons rfl (.cons rfl (.cons rfl .nil)))))) (.cons rfl (.cons rfl .nil)) ?_
                  refine jn_blk (jn_seq ?_)
                  refine j_region ?_
                  refine jg_adr _ rfl _ rfl rfl (op_move (.base rfl)) ?_
                  refine jg_adr _ rfl _ rfl rfl (op_add (.base rfl) (.base rfl) (w64 (by omega))) ?_
                  refine jg_adr _ rfl _ rfl rfl (op_assign (.base rfl)) ?_
                  refine jg_nil ?_
                  refine jn_keep [0, 1, 7, 8, 9, 10] [9, 70] (.cons rfl (.cons rfl (.cons rfl (.cons rfl (.cons rfl (.cons rfl .nil)))))) (.cons rfl (.cons rfl .nil)) ?_
                  exact jn_loop (fun a w hi => ⟨k + 1, (by omega), (by omega), Sub.inv ⟨(by repeat (first | exact SubS_nil | refine SubS_cons rfl (by first | rfl | (simp; done) | assumption) ?_)), (by repeat (first | exact SubH_nil | refine SubH_cons rfl (by first | rfl | (refine congrArg (HB.mk rBucket) ?_; first | (rw [hs]; done) | (rw [hs]; rfl))) ?_))⟩ hi⟩)
                · have h22 : inH (loAt bd i) (hiAt bd i) l[k] = false := by rw [hq] at h22; exact h22
                  have hs := cntB_f h20 h22
                  refine j_skip (jn_blk (jn_seq ?_))
                  refine j_region ?_
                  refine jg_adr _ rfl _ rfl rfl (op_move (.base rfl)) ?_
                  refine jg_adr _ rfl _ rfl rfl (op_add (.base rfl) (.base rfl) (w64 (by omega))) ?_
                  refine jg_adr _ rfl _ rfl rfl (op_assign (.base rfl)) ?_
                  refine jg_nil ?_
                  refine jn_keep [0, 1, 7, 8, 9, 10] [9, 70] (.cons rfl (.cons rfl (.cons rfl (.cons rfl (.cons rfl (.cons rfl .nil)))))) (.cons rfl (.cons rfl .nil)) ?_
                  exact jn_loop (fun a w hi => ⟨k + 1, (by omega), (by omega), Sub.inv ⟨(by repeat (first | exact SubS_nil | refine SubS_cons rfl (by first | rfl | (simp; done) | assumption) ?_)), (by repeat (first | exact SubH_nil | refine SubH_cons rfl (by first | rfl | (refine congrArg (HB.mk rBucket) ?_; first | (rw [hs]; done) | (rw [hs]; rfl))) ?_))⟩ hi⟩)
              · simp at h20
                obtain rfl : k = l.length := by omega
                rw [List.take_of_length_le (Nat.le_refl l.length)]
                refine j_exit (je_seq (je_loop (je_blk (jn_seq ?_))))
                refine j_region ?_
                refine jg_adr _ rfl _ rfl rfl (op_move (.base rfl)) ?_
                refine jg_adr _ rfl _ rfl rfl (op_oload ty44 (.base rfl) rfl rfl (Lens.id _)) ?_
                refine jg_adr _ rfl _ rfl rfl (op_bslice (rt := rBucket) Try.underlying28 ty44 z44 rfl (.cons (.tv (.base rfl)) .nil) rfl rfl) ?_
                refine jg_os _ rfl (op_append [0, 1, 8] Try.underlying28 ty44 z44 rfl by44 (.base rfl) rfl (by (try simp); try omega) (.tv (.base rfl)) (by unfold maxLen; (try simp); try omega) (by (try simp); try omega) rfl (.cons rfl (.cons rfl (.cons rfl .nil))) rfl) ?_
                refine jg_adr _ rfl _ rfl rfl (op_assign (.base rfl)) ?_
                refine jg_nil ?_
                refine jn_keep [0, 1, 7, 8] [70] (.cons rfl (.cons rfl (.cons rfl (.cons rfl .nil)))) (.cons rfl .nil) ?_
                refine jn_blk (jn_seq ?_)
                refine j_region ?_
                refine jg_adr _ rfl _ rfl rfl (op_move (.base rfl)) ?_
                refine jg_adr _ rfl _ rfl rfl (op_add (.base rfl) (.base rfl) (w64 (by omega))) ?_
                refine jg_adr _ rfl _ rfl rfl (op_assign (.base rfl)) ?_
                refine jg_nil ?_
                refine jn_keep [0, 1, 7, 8] [70] (.cons rfl (.cons rfl (.cons rfl (.cons rfl .nil)))) (.cons rfl .nil) ?_
                exact jn_loop (fun a w hi => ⟨i + 1, (by omega), (by omega), Sub.inv ⟨(by repeat (first | exact SubS_nil | refine SubS_cons rfl (by first | rfl | exact congrArg (SV.own 70 rBucket.n 0) (by rw [hcK_len, hcK_len]; simp)) ?_)), (by repeat (first | exact SubH_nil | refine SubH_cons rfl (by first | rfl | exact congrArg (HB.mk rBucket) (by rw [hcK_succ, List.drop_zero, List.take_of_length_le (Nat.le_refl _)])) ?_))⟩ hi⟩)
        · simp at h12
          obtain rfl : i = bd.length + 1 := by omega
          refine j_exit (je_seq (je_loop (je_blk (jn_seq (j_seq ?_)))))
          refine j_region ?_
          refine jg_adr _ rfl _ rfl rfl (op_move (.base rfl)) ?_
          refine jg_adr _ rfl _ rfl rfl (op_assign (.base rfl)) ?_
          refine jg_adr _ rfl _ rfl rfl (op_assign (.base rfl)) ?_
          refine jg_nil ?_
          refine jn_keep [4, 5] [70] (.cons rfl (.cons rfl .nil)) (.cons rfl .nil) ?_
          refine jn_seq (j_ret ?_)
          refine jr_seal (rt := rBucket) 70 4 (dropH 70 _) rfl rfl (by first | omega | (simp; done) | (simp; omega)) (dropH_sub 70 _) (dropH_no 70 _) ?_
          exact jr_fin2 Try.results15 (res_tmp rfl) (res_tmp rfl) ⟨rfl, rfl⟩ (svBI_eq (by unfold histR; rw [if_neg k1, if_neg k3, if_neg (fun q => q hp), hist_eq hol hp, List.drop_zero, List.take_of_length_le (by omega), hcK_n]))

end Go.Proofs.Ytfmoolclokffjaa
