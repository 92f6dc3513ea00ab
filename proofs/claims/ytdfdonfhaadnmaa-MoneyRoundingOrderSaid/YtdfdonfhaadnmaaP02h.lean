import Derived.Test.YtdfdonfhaadnmaaP02g
namespace Go.Proofs.Ytdfdonfhaadnmaa
open Go.Eng
set_option maxRecDepth 100000
set_option maxHeartbeats 4000000
set_option linter.unusedVariables false
set_option linter.unusedSimpArgs false


theorem sumF_snoc {n : Int} : ∀ {l : List Int} {t : Int}, (sumF t (l ++ [n])).2 = 0 → (sumF t l).2 = 0 ∧ (sumF t (l ++ [n])).1 = (sumF t l).1 + n ∧ -1000000000000000 ≤ (sumF t l).1 + n ∧ (sumF t l).1 + n ≤ 1000000000000000
  | [], t, h => by
    simp only [List.nil_append, sumF] at h ⊢
    by_cases h1 : byd n 1000000000000000 = true
    · rw [if_pos h1] at h; simp at h
    · rw [if_neg h1] at h
      by_cases h2 : byd (t + n) 1000000000000000 = true
      · rw [if_pos h2] at h; simp at h
      · have := byd_f (Bool.eq_false_iff.2 h2)
        rw [if_neg h1, if_neg h2]
        exact ⟨trivial, rfl, this⟩
  | x :: l, t, h => by
    simp only [List.cons_append, sumF] at h ⊢
    by_cases h1 : byd x 1000000000000000 = true
    · rw [if_pos h1] at h; simp at h
    · rw [if_neg h1] at h
      by_cases h2 : byd (t + x) 1000000000000000 = true
      · rw [if_pos h2] at h; simp at h
      · rw [if_neg h2] at h
        rw [if_neg h1, if_neg h2, if_neg h1, if_neg h2]
        exact sumF_snoc h
theorem sum_fin (l : List Int) (n : Int) : (((sumF 0 (l ++ [n])).2 != 0 || (sumF 0 l).2 == 0 && (sumF 0 (l ++ [n])).1 == IntKind.i64.wrap ((sumF 0 l).1 + n)) && true) = true := by
  by_cases h : (sumF 0 (l ++ [n])).2 = 0
  · obtain ⟨h1, h2, h3, h4⟩ := sumF_snoc h
    rw [w64 (by omega), h2, h1]; simp
  · simp [h]

theorem law_sum (l : List Int) (n : Int) : Ct Try.prog 8 [.tv (rSlice (rInt .i64)) l, .raw (.int .i64 n)] (.raw (.bool true)) := by
  refine ct_intro Try.func8 rfl rfl Try.ntmps8 rfl rfl ?_
  intro w0 ok0
  refine j_len 0 rfl (fun hl0 => ?_)
  refine j_seq ?_
  refine j_region ?_
  refine jg_adr _ rfl _ rfl rfl (op_assign (.base rfl)) ?_
  refine jg_nil ?_
  refine jn_keep [0, 1] [] (.cons rfl (.cons rfl .nil)) .nil ?_
  refine jn_seq (j_seq (j_seq ?_))
  refine j_region ?_
  refine jg_adr _ rfl _ rfl rfl (op_move (.base rfl)) ?_
  refine jg_adr _ rfl _ rfl rfl (op_len Try.underlying29 (.base rfl)) ?_
  refine jg_adr _ rfl _ rfl rfl (op_gtr (.base rfl) (.base rfl)) ?_
  refine jg_nil ?_
  refine jn_keep [0, 1, 13] [] (.cons rfl (.cons rfl (.cons rfl .nil))) .nil ?_
  refine jn_seq ?_
  refine j_cond rfl (fun h1 => ?_) (fun h1 => ?_)
  · simp at h1
    refine j_seq ?_
    refine j_region ?_
    refine jg_adr _ rfl _ rfl rfl (op_call awake_ok .nil rfl rfl) ?_
    refine jg_adr _ rfl _ rfl rfl (op_assign (.base rfl)) ?_
    refine jg_nil ?_
    refine jn_keep [4] [] (.cons rfl .nil) .nil ?_
    refine jn_seq (j_ret (jr_seq ?_))
    exact jr_fin1 Try.results8 (res_tmp rfl) rfl rfl
  · simp at h1
    refine j_skip (jn_seq (j_seq ?_))
    refine j_region ?_
    refine jg_adr _ rfl _ rfl rfl (op_move (.base rfl)) ?_
    refine jg_adr _ rfl _ rfl rfl (op_call (sum_ok _) (.cons (.base rfl) .nil) rfl rfl) ?_
    refine jg_adr _ rfl _ rfl rfl (op_move (.base rfl)) ?_
    refine jg_adr _ rfl _ rfl rfl (op_ext20 (.base rfl)) ?_
    refine jg_adr _ rfl _ rfl rfl (op_ext21 (.base rfl)) ?_
    refine jg_adr _ rfl _ rfl rfl (op_assign (.base rfl)) ?_
    refine jg_adr _ rfl _ rfl rfl (op_assign (.base rfl)) ?_
    refine jg_nil ?_
    refine jn_keep [0, 1, 5, 6] [] (.cons rfl (.cons rfl (.cons rfl (.cons rfl .nil)))) .nil ?_
    refine jn_seq (j_seq ?_)
    refine j_region ?_
    refine jg_adr _ rfl _ rfl rfl (op_move (.base rfl)) ?_
    refine jg_adr _ rfl _ rfl rfl (op_call (rsum_ok _) (.cons (.base rfl) .nil) rfl rfl) ?_
    refine jg_adr _ rfl _ rfl rfl (op_move (.base rfl)) ?_
    refine jg_adr _ rfl _ rfl rfl (op_ext20 (.base rfl)) ?_
    refine jg_adr _ rfl _ rfl rfl (op_ext21 (.base rfl)) ?_
    refine jg_adr _ rfl _ rfl rfl (op_assign (.base rfl)) ?_
    refine jg_adr _ rfl _ rfl rfl (op_assign (.base rfl)) ?_
    refine jg_nil ?_
    refine jn_keep [0, 1, 5, 6, 7, 8] [] (.cons rfl (.cons rfl (.cons rfl (.cons rfl (.cons rfl (.cons rfl .nil)))))) .nil ?_
    refine jn_seq (j_seq (j_seq ?_))
    refine j_region ?_
    refine jg_adr _ rfl _ rfl rfl (op_move (.base rfl)) ?_
    refine jg_adr _ rfl _ rfl rfl (op_move (.base rfl)) ?_
    refine jg_adr _ rfl _ rfl rfl (op_neq (.base rfl) (.base rfl)) ?_
    refine jg_adr _ rfl _ rfl rfl (op_move (.base rfl)) ?_
    refine jg_gd _ _ _ _ _ _ rfl rfl rfl rfl rfl (fun hg => op_move (.base rfl)) ?_
    refine jg_gd _ _ _ _ _ _ rfl rfl rfl rfl rfl (fun hg => op_move (.base rfl)) ?_
    refine jg_gd _ _ _ _ _ _ rfl rfl rfl rfl rfl (fun hg => op_neq (.gd rfl hg) (.gd rfl hg)) ?_
    refine jg_adr _ rfl _ rfl rfl (op_pick_or (.base rfl) (.base rfl) rfl (by intro h; first | (rw [h]; rfl) | (rw [hg, h]; rfl) | (rw [h, hg]; rfl) | simp_all)) ?_
    refine jg_nil ?_
    refine jn_keep [0, 1, 5, 6, 32] [] (.cons rfl (.cons rfl (.cons rfl (.cons rfl (.cons rfl .nil))))) .nil ?_
    refine jn_seq ?_
    refine j_cond rfl (fun h5 => ?_) (fun h5 => ?_)
    · exact absurd h5 (by simp)
    · skip
      refine j_skip (jn_seq (j_seq ?_))
      refine j_region ?_
      refine jg_os _ rfl (op_obslice (rt := rInt .i64) (ds := []) Try.underlying29 ty3 z3 rfl .nil rfl rfl rfl rfl rfl) ?_
      refine jg_adr _ rfl _ rfl rfl (op_move (.base rfl)) ?_
      refine jg_os _ rfl (op_append [1, 5, 6] Try.underlying29 ty3 z3 rfl by3 (.base rfl) rfl (by (try simp); try omega) (.tv (.base rfl)) (by unfold maxLen; (try simp); try omega) (by (try simp); try omega) rfl (.cons rfl (.cons rfl (.cons rfl .nil))) rfl) ?_
      refine jg_adr _ rfl _ rfl rfl (op_move (.base rfl)) ?_
      refine jg_adr _ rfl _ rfl rfl (op_bslice (rt := (rInt .i64)) Try.underlying29 ty3 z3 rfl (.cons (.raw (.base rfl) rfl) .nil) rfl rfl) ?_
      refine jg_os _ rfl (op_append [1, 5, 6] Try.underlying29 ty3 z3 rfl by3 (.base rfl) rfl (by (try simp); try omega) (.tv (.base rfl)) (by unfold maxLen; (try simp); try omega) (by (try simp); try omega) rfl (.cons rfl (.cons rfl (.cons rfl .nil))) rfl) ?_
      refine jg_adr _ rfl _ rfl rfl (op_callb (sum_ok _) (.own (.base rfl) rfl (by first | omega | (simp; try omega)) .nil) (flat_tup2 flat_raw flat_raw)) ?_
      refine jg_adr _ rfl _ rfl rfl (op_move (.base rfl)) ?_
      refine jg_adr _ rfl _ rfl rfl (op_ext20 (.base rfl)) ?_
      refine jg_adr _ rfl _ rfl rfl (op_ext21 (.base rfl)) ?_
      refine jg_adr _ rfl _ rfl rfl (op_assign (.base rfl)) ?_
      refine jg_adr _ rfl _ rfl rfl (op_assign (.base rfl)) ?_
      refine jg_nil ?_
      rw [show List.take (([] : List Int).length + l.length + [n].length) (List.drop 0 (List.take (([] : List Int).length + l.length) (List.drop 0 (List.take ([] : List Int).length (List.drop 0 []) ++ l)) ++ [n])) = l ++ [n] by simp [List.take_of_length_le]]
      refine jn_keep [1, 5, 6, 9, 10] [] (.cons rfl (.cons rfl (.cons rfl (.cons rfl (.cons rfl .nil))))) .nil ?_
      refine jn_seq (j_seq ?_)
      refine j_region ?_
      refine jg_adr _ rfl _ rfl rfl (op_move (.base rfl)) ?_
      refine jg_adr _ rfl _ rfl rfl (op_neq (.base rfl) (.base rfl)) ?_
      refine jg_adr _ rfl _ rfl rfl (op_move (.base rfl)) ?_
      refine jg_gd _ _ _ _ _ _ rfl rfl rfl rfl rfl (fun hg => op_move (.base rfl)) ?_
      refine jg_gd _ _ _ _ _ _ rfl rfl rfl rfl rfl (fun hg => op_eql (.gd rfl hg) (.base rfl)) ?_
      refine jg_gd _ _ _ _ _ _ rfl rfl rfl rfl rfl (fun hg => op_move (.gd rfl hg)) ?_
      refine jg_gd2 _ _ _ _ _ _ _ rfl rfl rfl rfl rfl (fun hg => op_move (.base rfl)) ?_
      refine jg_gd2 _ _ _ _ _ _ _ rfl rfl rfl rfl rfl (fun hg => op_move (.base rfl)) ?_
      refine jg_gd2 _ _ _ _ _ _ _ rfl rfl rfl rfl rfl (fun hg => op_move (.base rfl)) ?_
      refine jg_gd2 _ _ _ _ _ _ _ rfl rfl rfl rfl rfl (fun hg => op_add (.gd rfl hg) (.gd rfl hg) rfl) ?_
      refine jg_gd2 _ _ _ _ _ _ _ rfl rfl rfl rfl rfl (fun hg => op_eql (.gd rfl hg) (.gd rfl hg)) ?_
      refine jg_gd _ _ _ _ _ _ rfl rfl rfl rfl rfl (fun hg => op_pick_and (.gd rfl hg) (.base rfl) rfl (by intro h; first | (rw [h]; rfl) | (rw [hg, h]; rfl) | (rw [h, hg]; rfl) | simp_all)) ?_
      refine jg_adr _ rfl _ rfl rfl (op_pick_or (.base rfl) (.base rfl) rfl (by intro h; first | (rw [h]; rfl) | (rw [hg, h]; rfl) | (rw [h, hg]; rfl) | simp_all)) ?_
      refine jg_adr _ rfl _ rfl rfl (op_move (.base rfl)) ?_
      refine jg_gd _ _ _ _ _ _ rfl rfl rfl rfl rfl (fun hg => op_call awake_ok .nil rfl rfl) ?_
      refine jg_adr _ rfl _ rfl rfl (op_pick_and (.base rfl) (.base rfl) rfl (by intro h; first | (rw [h]; rfl) | (rw [hg, h]; rfl) | (rw [h, hg]; rfl) | simp_all)) ?_
      refine jg_adr _ rfl _ rfl rfl (op_assign (.base rfl)) ?_
      refine jg_nil ?_
      refine jn_keep [4] [] (.cons rfl .nil) .nil ?_
      refine jn_seq (j_ret ?_)
      exact jr_fin1 Try.results8 (res_tmp rfl) rfl (rb (sum_fin l n))


theorem divR_zero {n d m : Int} (h : (divR n d m).2 = 0) : d ≠ 0 ∧ byd n 4611686018427387904 = false ∧ byd d 4611686018427387904 = false ∧ modeOk m = true := by
  by_cases h1 : modeOk m = false
  · unfold divR at h; rw [if_pos h1] at h; simp at h
  by_cases h2 : d = 0
  · unfold divR at h; rw [if_neg h1, if_pos h2] at h; simp at h
  by_cases h3 : (byd n 4611686018427387904 || byd d 4611686018427387904) = true
  · unfold divR at h; rw [if_neg h1, if_neg h2, if_pos h3] at h; simp at h
  · have := orF (by simpa using h3 : (byd n 4611686018427387904 || byd d 4611686018427387904) = false)
    exact ⟨h2, this.1, this.2, by simpa using h1⟩
theorem divR_def {n d m : Int} (h0 : d ≠ 0) (h1 : byd n 4611686018427387904 = false) (h2 : byd d 4611686018427387904 = false) (hm : modeOk m = true) : divR n d m = (sgn (divV n d m) (ngv n d), 0) := by
  unfold divR; rw [if_neg (by simp [hm]), if_neg h0, if_neg (by simp [h1, h2])]
theorem divR_code (n d : Int) : (divR n d 0).2 = (divR n d 1).2 := by
  unfold divR
  rw [if_neg (show ¬ modeOk 0 = false by decide), if_neg (show ¬ modeOk 1 = false by decide)]
  split
  · rfl
  · split <;> rfl
/-- the roundings beside each other -/
theorem rnd_cases (q r d : Nat) (neg : Bool) (m : Int) : (r = 0 → rndM q r d neg m = q) ∧ (r ≠ 0 → rndM q r d neg 0 = (if neg = true then q + 1 else q) ∧ rndM q r d neg 1 = (if neg = true then q else q + 1)) ∧ (m ≠ 0 → m ≠ 1 → rndM q r d (!neg) m = rndM q r d neg m) := by
  refine ⟨fun h => ?_, fun h => ⟨?_, ?_⟩, fun h0 h1 => ?_⟩
  · unfold rndM upM; simp [h]
  · unfold rndM upM; simp [h]
  · unfold rndM upM; cases neg <;> simp [h]
  · unfold rndM upM; simp [h0, h1]
theorem sgn_not (v : Nat) (neg : Bool) : sgn v (!neg) = -(sgn v neg) := by unfold sgn; cases neg <;> simp
theorem ord_lohi {n d : Int} (h0 : d ≠ 0) (h1 : byd n 4611686018427387904 = false) (h2 : byd d 4611686018427387904 = false) :
    (divR n d 0).1 ≤ (divR n d 1).1 ∧ (divR n d 1).1 ≤ (divR n d 0).1 + 1 ∧ ((divR n d 1).1 = (divR n d 0).1 ↔ n.tmod d = 0) := by
  rw [divR_def h0 h1 h2 rfl, divR_def h0 h1 h2 rfl]
  have hr : n.tmod d = 0 ↔ n.natAbs % d.natAbs = 0 := by rw [← Int.natAbs_tmod]; exact Int.natAbs_eq_zero.symm
  rw [hr]
  unfold divV
  have c0 := rnd_cases (n.natAbs / d.natAbs) (n.natAbs % d.natAbs) d.natAbs (ngv n d) 0
  have c1 := rnd_cases (n.natAbs / d.natAbs) (n.natAbs % d.natAbs) d.natAbs (ngv n d) 1
  by_cases hz : n.natAbs % d.natAbs = 0
  · simp only [c0.1 hz, c1.1 hz]; exact ⟨Int.le_refl _, Int.le_add_of_nonneg_right (by decide), by simp [hz]⟩
  · simp only [(c0.2.1 hz).1, (c0.2.1 hz).2]
    unfold sgn
    cases ngv n d <;> simp [hz] <;> omega
theorem ord_m {n d m : Int} (h0 : d ≠ 0) (h1 : byd n 4611686018427387904 = false) (h2 : byd d 4611686018427387904 = false) (hm : modeOk m = true) :
    (divR n d m).2 = 0 ∧ (divR (-n) d m).2 = 0 ∧ (divR n d 0).1 ≤ (divR n d m).1 ∧ (divR n d m).1 ≤ (divR n d 1).1 ∧
      (m = 0 → (divR (-n) d m).1 = -(divR n d 1).1) ∧ (m = 1 → (divR (-n) d m).1 = -(divR n d 0).1) ∧ (m ≠ 0 → m ≠ 1 → (divR (-n) d m).1 = -(divR n d m).1) := by
  have hb : byd (-n) 4611686018427387904 = false := by simp [byd] at h1 ⊢; omega
  rw [divR_def h0 h1 h2 hm, divR_def h0 hb h2 hm, divR_def h0 h1 h2 rfl, divR_def h0 h1 h2 rfl]
  refine ⟨rfl, rfl, ?_⟩
  simp only
  unfold divV
  rw [Int.natAbs_neg]
  have c0 := rnd_cases (n.natAbs / d.natAbs) (n.natAbs % d.natAbs) d.natAbs (ngv n d) 0
  have c1 := rnd_cases (n.natAbs / d.natAbs) (n.natAbs % d.natAbs) d.natAbs (ngv n d) 1
  have cm := rnd_cases (n.natAbs / d.natAbs) (n.natAbs % d.natAbs) d.natAbs (ngv n d) m
  have cn := rnd_cases (n.natAbs / d.natAbs) (n.natAbs % d.natAbs) d.natAbs (ngv (-n) d) m
  have lm := rndM_le (n.natAbs / d.natAbs) (n.natAbs % d.natAbs) d.natAbs (ngv n d) m
  by_cases hz : n.natAbs % d.natAbs = 0
  · rw [c0.1 hz, c1.1 hz, cm.1 hz, cn.1 hz]
    by_cases hn : n = 0
    · subst hn; simp [sgn]
    · have hng : ngv (-n) d = !(ngv n d) := by
        unfold ngv
        rcases Int.lt_or_gt_of_ne hn with q | q
        · rw [decide_eq_true q, decide_eq_false (show ¬ -n < 0 by omega)]; cases decide (d < 0) <;> rfl
        · rw [decide_eq_false (show ¬ n < 0 by omega), decide_eq_true (show -n < 0 by omega)]; cases decide (d < 0) <;> rfl
      rw [hng, sgn_not]
      exact ⟨Int.le_refl _, Int.le_refl _, fun _ => rfl, fun _ => rfl, fun _ _ => rfl⟩
  · have hn : n ≠ 0 := by rintro rfl; simp at hz
    have hng : ngv (-n) d = !(ngv n d) := by
      unfold ngv
      rcases Int.lt_or_gt_of_ne hn with q | q
      · rw [decide_eq_true q, decide_eq_false (show ¬ -n < 0 by omega)]; cases decide (d < 0) <;> rfl
      · rw [decide_eq_false (show ¬ n < 0 by omega), decide_eq_true (show -n < 0 by omega)]; cases decide (d < 0) <;> rfl
    have d0 := (rnd_cases (n.natAbs / d.natAbs) (n.natAbs % d.natAbs) d.natAbs (!(ngv n d)) 0).2.1 hz
    rw [hng, sgn_not]
    rw [(c0.2.1 hz).1, (c0.2.1 hz).2]
    refine ⟨?_, ?_, fun e => ?_, fun e => ?_, fun e1 e2 => ?_⟩
    · unfold sgn; cases hb : ngv n d <;> rw [hb] at lm <;> simp <;> omega
    · unfold sgn; cases hb : ngv n d <;> rw [hb] at lm <;> simp <;> omega
    · subst e; rw [d0.1]; cases ngv n d <;> simp
    · subst e; rw [d0.2]; cases ngv n d <;> simp
    · rw [cm.2.2 e1 e2]
theorem divR_bd {n d m : Int} (h0 : d ≠ 0) (h1 : byd n 4611686018427387904 = false) (h2 : byd d 4611686018427387904 = false) (hm : modeOk m = true) : -4611686018427387905 ≤ (divR n d m).1 ∧ (divR n d m).1 ≤ 4611686018427387905 := by
  rw [divR_def h0 h1 h2 hm]
  have := byd_f h1
  have l1 := (rndM_le (n.natAbs / d.natAbs) (n.natAbs % d.natAbs) d.natAbs (ngv n d) m).1
  have l2 := Nat.div_le_self n.natAbs d.natAbs
  have l3 : divV n d m ≤ 4611686018427387905 := by unfold divV; omega
  have := sgn_abs (divV n d m) (ngv n d)
  simp only; omega

theorem law_order (n d : Int) : Ct Try.prog 9 [.raw (.int .i64 n), .raw (.int .i64 d)] (.raw (.bool true)) := by
  refine ct_intro Try.func9 rfl rfl Try.ntmps9 rfl rfl ?_
  intro w0 ok0
  refine j_seq ?_
  refine j_region ?_
  refine jg_adr _ rfl _ rfl rfl (op_assign (.base rfl)) ?_
  refine jg_nil ?_
  refine jn_keep [0, 1] [] (.cons rfl (.cons rfl .nil)) .nil ?_
  refine jn_seq (j_seq ?_)
  refine j_region ?_
  refine jg_adr _ rfl _ rfl rfl (op_move (.base rfl)) ?_
  refine jg_adr _ rfl _ rfl rfl (op_move (.base rfl)) ?_
  refine jg_adr _ rfl _ rfl rfl (op_call (divRound_ok _ _ _) (.cons (.base rfl) (.cons (.base rfl) (.cons (.base rfl) .nil))) rfl rfl) ?_
  refine jg_adr _ rfl _ rfl rfl (op_move (.base rfl)) ?_
  refine jg_adr _ rfl _ rfl rfl (op_ext20 (.base rfl)) ?_
  refine jg_adr _ rfl _ rfl rfl (op_ext21 (.base rfl)) ?_
  refine jg_adr _ rfl _ rfl rfl (op_assign (.base rfl)) ?_
  refine jg_adr _ rfl _ rfl rfl (op_assign (.base rfl)) ?_
  refine jg_nil ?_
  refine jn_keep [0, 1, 5, 6] [] (.cons rfl (.cons rfl (.cons rfl (.cons rfl .nil)))) .nil ?_
  refine jn_seq (j_seq ?_)
  refine j_region ?_
  refine jg_adr _ rfl _ rfl rfl (op_move (.base rfl)) ?_
  refine jg_adr _ rfl _ rfl rfl (op_move (.base rfl)) ?_
  refine jg_adr _ rfl _ rfl rfl (op_call (divRound_ok _ _ _) (.cons (.base rfl) (.cons (.base rfl) (.cons (.base rfl) .nil))) rfl rfl) ?_
  refine jg_adr _ rfl _ rfl rfl (op_move (.base rfl)) ?_
  refine jg_adr _ rfl _ rfl rfl (op_ext20 (.base rfl)) ?_
  refine jg_adr _ rfl _ rfl rfl (op_ext21 (.base rfl)) ?_
  refine jg_adr _ rfl _ rfl rfl (op_assign (.base rfl)) ?_
  refine jg_adr _ rfl _ rfl rfl (op_assign (.base rfl)) ?_
  refine jg_nil ?_
  refine jn_keep [0, 1, 5, 6, 7, 8] [] (.cons rfl (.cons rfl (.cons rfl (.cons rfl (.cons rfl (.cons rfl .nil)))))) .nil ?_
  refine jn_seq (j_seq (j_seq ?_))
  refine j_region ?_
  refine jg_adr _ rfl _ rfl rfl (op_move (.base rfl)) ?_
  refine jg_adr _ rfl _ rfl rfl (op_move (.base rfl)) ?_
  refine jg_adr _ rfl _ rfl rfl (op_neq (.base rfl) (.base rfl)) ?_
  refine jg_adr _ rfl _ rfl rfl (op_move (.base rfl)) ?_
  refine jg_gd _ _ _ _ _ _ rfl rfl rfl rfl rfl (fun hg => op_move (.base rfl)) ?_
  refine jg_gd _ _ _ _ _ _ rfl rfl rfl rfl rfl (fun hg => op_neq (.gd rfl hg) (.base rfl)) ?_
  refine jg_adr _ rfl _ rfl rfl (op_pick_or (.base rfl) (.base rfl) rfl (by intro h; first | (rw [h]; rfl) | (rw [hg, h]; rfl) | (rw [h, hg]; rfl) | simp_all)) ?_
  refine jg_nil ?_
  refine jn_keep [0, 1, 5, 6, 7, 8, 32] [] (.cons rfl (.cons rfl (.cons rfl (.cons rfl (.cons rfl (.cons rfl (.cons rfl .nil))))))) .nil ?_
  refine jn_seq ?_
  refine j_cond rfl (fun h3 => ?_) (fun h3 => ?_)
  · skip
    refine j_seq ?_
    refine j_region ?_
    refine jg_adr _ rfl _ rfl rfl (op_move (.base rfl)) ?_
    refine jg_adr _ rfl _ rfl rfl (op_move (.base rfl)) ?_
    refine jg_adr _ rfl _ rfl rfl (op_eql (.base rfl) (.base rfl)) ?_
    refine jg_adr _ rfl _ rfl rfl (op_move (.base rfl)) ?_
    refine jg_gd _ _ _ _ _ _ rfl rfl rfl rfl rfl (fun hg => op_call awake_ok .nil rfl rfl) ?_
    refine jg_adr _ rfl _ rfl rfl (op_pick_and (.base rfl) (.base rfl) rfl (by intro h; first | (rw [h]; rfl) | (rw [hg, h]; rfl) | (rw [h, hg]; rfl) | simp_all)) ?_
    refine jg_adr _ rfl _ rfl rfl (op_assign (.base rfl)) ?_
    refine jg_nil ?_
    refine jn_keep [4] [] (.cons rfl .nil) .nil ?_
    refine jn_seq (j_ret (jr_seq ?_))
    exact jr_fin1 Try.results9 (res_tmp rfl) rfl (rb (by rw [divR_code]; simp))
  · have hz : (divR n d 0).2 = 0 := by simpa [divR_code] using (orF h3).2
    have z := divR_zero hz
    have zb := byd_f z.2.1
    have zl := ord_lohi z.1 z.2.1 z.2.2.1
    have z0 := divR_bd (m := 0) z.1 z.2.1 z.2.2.1 rfl
    have z1 := divR_bd (m := 1) z.1 z.2.1 z.2.2.1 rfl
    have zd := z.1
    refine j_skip (jn_seq (j_seq (j_seq ?_)))
    refine j_region ?_
    refine jg_adr _ rfl _ rfl rfl (op_move (.base rfl)) ?_
    refine jg_adr _ rfl _ rfl rfl (op_eql (.base rfl) (.base rfl)) ?_
    refine jg_adr _ rfl _ rfl rfl (op_move (.base rfl)) ?_
    refine jg_gd _ _ _ _ _ _ rfl rfl rfl rfl rfl (fun hg => op_move (.base rfl)) ?_
    refine jg_gd _ _ _ _ _ _ rfl rfl rfl rfl rfl (fun hg => op_move (.base rfl)) ?_
    refine jg_gd _ _ _ _ _ _ rfl rfl rfl rfl rfl (fun hg => op_lss (.gd rfl hg) (.gd rfl hg)) ?_
    refine jg_adr _ rfl _ rfl rfl (op_pick_or (.base rfl) (.base rfl) rfl (by intro h; first | (rw [h]; rfl) | (rw [hg, h]; rfl) | (rw [h, hg]; rfl) | simp_all)) ?_
    refine jg_adr _ rfl _ rfl rfl (op_move (.base rfl)) ?_
    refine jg_gd _ _ _ _ _ _ rfl rfl rfl rfl rfl (fun hg => op_move (.base rfl)) ?_
    refine jg_gd _ _ _ _ _ _ rfl rfl rfl rfl rfl (fun hg => op_move (.base rfl)) ?_
    refine jg_gd _ _ _ _ _ _ rfl rfl rfl rfl rfl (fun hg => op_sub (.gd rfl hg) (.gd rfl hg) (w64 (by omega))) ?_
    refine jg_gd _ _ _ _ _ _ rfl rfl rfl rfl rfl (fun hg => op_gtr (.gd rfl hg) (.base rfl)) ?_
    refine jg_adr _ rfl _ rfl rfl (op_pick_or (.base rfl) (.base rfl) rfl (by intro h; first | (rw [h]; rfl) | (rw [hg, h]; rfl) | (rw [h, hg]; rfl) | simp_all)) ?_
    refine jg_adr _ rfl _ rfl rfl (op_move (.base rfl)) ?_
    refine jg_gd _ _ _ _ _ _ rfl rfl rfl rfl rfl (fun hg => op_move (.base rfl)) ?_
    refine jg_gd _ _ _ _ _ _ rfl rfl rfl rfl rfl (fun hg => op_move (.base rfl)) ?_
    refine jg_gd _ _ _ _ _ _ rfl rfl rfl rfl rfl (fun hg => op_eql (.gd rfl hg) (.gd rfl hg)) ?_
    refine jg_gd _ _ _ _ _ _ rfl rfl rfl rfl rfl (fun hg => op_move (.base rfl)) ?_
    refine jg_gd _ _ _ _ _ _ rfl rfl rfl rfl rfl (fun hg => op_move (.base rfl)) ?_
    refine jg_gd _ _ _ _ _ _ rfl rfl rfl rfl rfl (fun hg => op_rem_e (.gd rfl hg) (.gd rfl hg) (by omega) rfl) ?_
    refine jg_gd _ _ _ _ _ _ rfl rfl rfl rfl rfl (fun hg => op_eql (.gd rfl hg) (.base rfl)) ?_
    refine jg_gd _ _ _ _ _ _ rfl rfl rfl rfl rfl (fun hg => op_neq_bool Try.underlying4 (.gd rfl hg) (.gd rfl hg)) ?_
    refine jg_adr _ rfl _ rfl rfl (op_pick_or (.base rfl) (.base rfl) rfl (by intro h; first | (rw [h]; rfl) | (rw [hg, h]; rfl) | (rw [h, hg]; rfl) | simp_all)) ?_
    refine jg_nil ?_
    refine jn_keep [0, 1, 5, 7, 61] [] (.cons rfl (.cons rfl (.cons rfl (.cons rfl (.cons rfl .nil))))) .nil ?_
    refine jn_seq ?_
    refine j_cond rfl (fun h5 => ?_) (fun h5 => ?_)
    · exfalso
      have e1 : (((divR n d 1).1 == (divR n d 0).1) != (n.tmod d == 0)) = false := by
        rw [bne_eq_false_iff_eq, Bool.eq_iff_iff]; simpa using zl.2.2
      simp [zd, e1] at h5
      omega
    · skip
      refine j_skip (jn_seq (j_seq (j_seq ?_)))
      refine j_region ?_
      refine jg_adr _ rfl _ rfl rfl (op_assign (.base rfl)) ?_
      refine jg_nil ?_
      refine jn_keep [0, 1, 5, 7, 9] [] (.cons rfl (.cons rfl (.cons rfl (.cons rfl (.cons rfl .nil))))) .nil ?_
      refine jn_seq (j_block ?_)
      refine j_loopp (ι := Nat) (fun k => ⟨[(0, .raw (.int .i64 (n))), (1, .raw (.int .i64 (d))), (5, .raw (.int .i64 ((divR n d 0).1))), (7, .raw (.int .i64 ((divR n d 1).1))), (9, .raw (.int .i64 ((k : Nat))))], []⟩) (fun k => k ≤ 6) (fun k => 6 - k) 0 (by omega) (fun a w hi => (Sub.inv ⟨(by repeat (first | exact SubS_nil | refine SubS_cons rfl (by first | rfl | (simp; done) | assumption) ?_)), (by repeat (first | exact SubH_nil | refine SubH_cons rfl (by first | rfl | (simp; done) | assumption) ?_))⟩ hi)) ?_
      rintro k p1
      refine j_seq (j_seq ?_)
      refine j_region ?_
      refine jg_adr _ rfl _ rfl rfl (op_move (.base rfl)) ?_
      refine jg_adr _ rfl _ rfl rfl (op_leq (.base rfl) (.base rfl)) ?_
      refine jg_nil ?_
      refine jn_keep [0, 1, 5, 7, 9, 63] [] (.cons rfl (.cons rfl (.cons rfl (.cons rfl (.cons rfl (.cons rfl .nil)))))) .nil ?_
      refine jn_seq ?_
      refine j_cond rfl (fun h8 => ?_) (fun h8 => ?_)
      · simp at h8
        have hm : modeOk (k : Int) = true := by simp [modeOk]; omega
        have zm := ord_m z.1 z.2.1 z.2.2.1 hm
        have zk := divR_bd z.1 z.2.1 z.2.2.1 hm
        refine j_skip (jn_seq (j_seq (j_block (j_seq ?_))))
        refine j_region ?_
        refine jg_adr _ rfl _ rfl rfl (op_move (.base rfl)) ?_
        refine jg_adr _ rfl _ rfl rfl (op_move (.base rfl)) ?_
        refine jg_adr _ rfl _ rfl rfl (op_move (.base rfl)) ?_
        refine jg_adr _ rfl _ rfl rfl (op_call (divRound_ok _ _ _) (.cons (.base rfl) (.cons (.base rfl) (.cons (.base rfl) .nil))) rfl rfl) ?_
        refine jg_adr _ rfl _ rfl rfl (op_move (.base rfl)) ?_
        refine jg_adr _ rfl _ rfl rfl (op_ext20 (.base rfl)) ?_
        refine jg_adr _ rfl _ rfl rfl (op_ext21 (.base rfl)) ?_
        refine jg_adr _ rfl _ rfl rfl (op_assign (.base rfl)) ?_
        refine jg_adr _ rfl _ rfl rfl (op_assign (.base rfl)) ?_
        refine jg_nil ?_
        refine jn_keep [0, 1, 5, 7, 9, 10, 11] [] (.cons rfl (.cons rfl (.cons rfl (.cons rfl (.cons rfl (.cons rfl (.cons rfl .nil))))))) .nil ?_
        refine jn_seq (j_seq ?_)
        refine j_region ?_
        refine jg_adr _ rfl _ rfl rfl (op_move (.base rfl)) ?_
        refine jg_adr _ rfl _ rfl rfl (op_neg (.base rfl) (w64 (by omega))) ?_
        refine jg_adr _ rfl _ rfl rfl (op_move (.base rfl)) ?_
        refine jg_adr _ rfl _ rfl rfl (op_move (.base rfl)) ?_
        refine jg_adr _ rfl _ rfl rfl (op_call (divRound_ok _ _ _) (.cons (.base rfl) (.cons (.base rfl) (.cons (.base rfl) .nil))) rfl rfl) ?_
        refine jg_adr _ rfl _ rfl rfl (op_move (.base rfl)) ?_
        refine jg_adr _ rfl _ rfl rfl (op_ext20 (.base rfl)) ?_
        refine jg_adr _ rfl _ rfl rfl (op_ext21 (.base rfl)) ?_
        refine jg_adr _ rfl _ rfl rfl (op_assign (.base rfl)) ?_
        refine jg_adr _ rfl _ rfl rfl (op_assign (.base rfl)) ?_
        refine jg_nil ?_
        refine jn_keep [0, 1, 5, 7, 9, 10, 11, 12, 13] [] (.cons rfl (.cons rfl (.cons rfl (.cons rfl (.cons rfl (.cons rfl (.cons rfl (.cons rfl (.cons rfl .nil))))))))) .nil ?_
        refine jn_seq (j_seq (j_seq ?_))
        refine j_region ?_
        refine jg_adr _ rfl _ rfl rfl (op_move (.base rfl)) ?_
        refine jg_adr _ rfl _ rfl rfl (op_neq (.base rfl) (.base rfl)) ?_
        refine jg_adr _ rfl _ rfl rfl (op_move (.base rfl)) ?_
        refine jg_gd _ _ _ _ _ _ rfl rfl rfl rfl rfl (fun hg => op_move (.base rfl)) ?_
        refine jg_gd _ _ _ _ _ _ rfl rfl rfl rfl rfl (fun hg => op_neq (.gd rfl hg) (.base rfl)) ?_
        refine jg_adr _ rfl _ rfl rfl (op_pick_or (.base rfl) (.base rfl) rfl (by intro h; first | (rw [h]; rfl) | (rw [hg, h]; rfl) | (rw [h, hg]; rfl) | simp_all)) ?_
        refine jg_adr _ rfl _ rfl rfl (op_move (.base rfl)) ?_
        refine jg_gd _ _ _ _ _ _ rfl rfl rfl rfl rfl (fun hg => op_move (.base rfl)) ?_
        refine jg_gd _ _ _ _ _ _ rfl rfl rfl rfl rfl (fun hg => op_move (.base rfl)) ?_
        refine jg_gd _ _ _ _ _ _ rfl rfl rfl rfl rfl (fun hg => op_lss (.gd rfl hg) (.gd rfl hg)) ?_
        refine jg_adr _ rfl _ rfl rfl (op_pick_or (.base rfl) (.base rfl) rfl (by intro h; first | (rw [h]; rfl) | (rw [hg, h]; rfl) | (rw [h, hg]; rfl) | simp_all)) ?_
        refine jg_adr _ rfl _ rfl rfl (op_move (.base rfl)) ?_
        refine jg_gd _ _ _ _ _ _ rfl rfl rfl rfl rfl (fun hg => op_move (.base rfl)) ?_
        refine jg_gd _ _ _ _ _ _ rfl rfl rfl rfl rfl (fun hg => op_move (.base rfl)) ?_
        refine jg_gd _ _ _ _ _ _ rfl rfl rfl rfl rfl (fun hg => op_gtr (.gd rfl hg) (.gd rfl hg)) ?_
        refine jg_adr _ rfl _ rfl rfl (op_pick_or (.base rfl) (.base rfl) rfl (by intro h; first | (rw [h]; rfl) | (rw [hg, h]; rfl) | (rw [h, hg]; rfl) | simp_all)) ?_
        refine jg_nil ?_
        refine jn_keep [0, 1, 5, 7, 9, 10, 12, 96] [] (.cons rfl (.cons rfl (.cons rfl (.cons rfl (.cons rfl (.cons rfl (.cons rfl (.cons rfl .nil)))))))) .nil ?_
        refine jn_seq ?_
        refine j_cond rfl (fun h12 => ?_) (fun h12 => ?_)
        · exfalso
          simp [zm.1, zm.2.1] at h12
          omega
        · skip
          refine j_skip (jn_seq (j_seq ?_))
          refine j_region ?_
          refine jg_adr _ rfl _ rfl rfl (op_move (.base rfl)) ?_
          refine jg_adr _ rfl _ rfl rfl (op_eql (.base rfl) (.base rfl)) ?_
          refine jg_adr _ rfl _ rfl rfl (op_move (.base rfl)) ?_
          refine jg_gd _ _ _ _ _ _ rfl rfl rfl rfl rfl (fun hg => op_move (.base rfl)) ?_
          refine jg_gd _ _ _ _ _ _ rfl rfl rfl rfl rfl (fun hg => op_move (.base rfl)) ?_
          refine jg_gd _ _ _ _ _ _ rfl rfl rfl rfl rfl (fun hg => op_neg (.gd rfl hg) (w64 (by omega))) ?_
          refine jg_gd _ _ _ _ _ _ rfl rfl rfl rfl rfl (fun hg => op_neq (.gd rfl hg) (.gd rfl hg)) ?_
          refine jg_adr _ rfl _ rfl rfl (op_pick_and (.base rfl) (.base rfl) rfl (by intro h; first | (rw [h]; rfl) | (rw [hg, h]; rfl) | (rw [h, hg]; rfl) | simp_all)) ?_
          refine jg_adr _ rfl _ rfl rfl (op_move (.base rfl)) ?_
          refine jg_gd _ _ _ _ _ _ rfl rfl rfl rfl rfl (fun hg => op_move (.base rfl)) ?_
          refine jg_gd _ _ _ _ _ _ rfl rfl rfl rfl rfl (fun hg => op_eql (.gd rfl hg) (.base rfl)) ?_
          refine jg_gd _ _ _ _ _ _ rfl rfl rfl rfl rfl (fun hg => op_move (.gd rfl hg)) ?_
          refine jg_gd2 _ _ _ _ _ _ _ rfl rfl rfl rfl rfl (fun hg => op_move (.base rfl)) ?_
          refine jg_gd2 _ _ _ _ _ _ _ rfl rfl rfl rfl rfl (fun hg => op_move (.base rfl)) ?_
          refine jg_gd2 _ _ _ _ _ _ _ rfl rfl rfl rfl rfl (fun hg => op_neg (.gd rfl hg) (w64 (by omega))) ?_
          refine jg_gd2 _ _ _ _ _ _ _ rfl rfl rfl rfl rfl (fun hg => op_neq (.gd rfl hg) (.gd rfl hg)) ?_
          refine jg_gd _ _ _ _ _ _ rfl rfl rfl rfl rfl (fun hg => op_pick_and (.gd rfl hg) (.base rfl) rfl (by intro h; first | (rw [h]; rfl) | (rw [hg, h]; rfl) | (rw [h, hg]; rfl) | simp_all)) ?_
          refine jg_adr _ rfl _ rfl rfl (op_pick_or (.base rfl) (.base rfl) rfl (by intro h; first | (rw [h]; rfl) | (rw [hg, h]; rfl) | (rw [h, hg]; rfl) | simp_all)) ?_
          refine jg_adr _ rfl _ rfl rfl (op_move (.base rfl)) ?_
          refine jg_gd _ _ _ _ _ _ rfl rfl rfl rfl rfl (fun hg => op_move (.base rfl)) ?_
          refine jg_gd _ _ _ _ _ _ rfl rfl rfl rfl rfl (fun hg => op_gtr (.gd rfl hg) (.base rfl)) ?_
          refine jg_gd _ _ _ _ _ _ rfl rfl rfl rfl rfl (fun hg => op_move (.gd rfl hg)) ?_
          refine jg_gd2 _ _ _ _ _ _ _ rfl rfl rfl rfl rfl (fun hg => op_move (.base rfl)) ?_
          refine jg_gd2 _ _ _ _ _ _ _ rfl rfl rfl rfl rfl (fun hg => op_move (.base rfl)) ?_
          refine jg_gd2 _ _ _ _ _ _ _ rfl rfl rfl rfl rfl (fun hg => op_neg (.gd rfl hg) (w64 (by omega))) ?_
          refine jg_gd2 _ _ _ _ _ _ _ rfl rfl rfl rfl rfl (fun hg => op_neq (.gd rfl hg) (.gd rfl hg)) ?_
          refine jg_gd _ _ _ _ _ _ rfl rfl rfl rfl rfl (fun hg => op_pick_and (.gd rfl hg) (.base rfl) rfl (by intro h; first | (rw [h]; rfl) | (rw [hg, h]; rfl) | (rw [h, hg]; rfl) | simp_all)) ?_
          refine jg_adr _ rfl _ rfl rfl (op_pick_or (.base rfl) (.base rfl) rfl (by intro h; first | (rw [h]; rfl) | (rw [hg, h]; rfl) | (rw [h, hg]; rfl) | simp_all)) ?_
          refine jg_nil ?_
          refine jn_keep [0, 1, 5, 7, 9, 124] [] (.cons rfl (.cons rfl (.cons rfl (.cons rfl (.cons rfl (.cons rfl .nil)))))) .nil ?_
          refine jn_seq ?_
          refine j_cond rfl (fun h14 => ?_) (fun h14 => ?_)
          · exfalso
            rcases Nat.lt_or_ge k 2 with hk | hk
            · have : k = 0 ∨ k = 1 := by omega
              rcases this with rfl | rfl
              · simp at h14
                exact h14 (zm.2.2.2.2.1 rfl)
              · simp at h14
                exact h14 (zm.2.2.2.2.2.1 rfl)
            · simp [zm.2.2.2.2.2.2 (by omega) (by omega)] at h14
              omega
          · skip
            refine j_skip (jn_blk (jn_seq ?_))
            refine j_region ?_
            refine jg_adr _ rfl _ rfl rfl (op_move (.base rfl)) ?_
            refine jg_adr _ rfl _ rfl rfl (op_add (.base rfl) (.base rfl) (w64 (by omega))) ?_
            refine jg_adr _ rfl _ rfl rfl (op_assign (.base rfl)) ?_
            refine jg_nil ?_
            refine jn_keep [0, 1, 5, 7, 9] [] (.cons rfl (.cons rfl (.cons rfl (.cons rfl (.cons rfl .nil))))) .nil ?_
            exact jn_loop (fun a w hi => ⟨k + 1, (by first | omega | (simp; omega)), (by omega), (Sub.inv ⟨(by repeat (first | exact SubS_nil | refine SubS_cons rfl (by first | rfl | (simp; done) | assumption) ?_)), (by repeat (first | exact SubH_nil | refine SubH_cons rfl (by first | rfl | (simp; done) | assumption) ?_))⟩ hi)⟩)
      · simp at h8
        refine j_exit (je_seq (je_loop (je_blk (jn_seq (j_seq ?_)))))
        refine j_region ?_
        refine jg_adr _ rfl _ rfl rfl (op_call awake_ok .nil rfl rfl) ?_
        refine jg_adr _ rfl _ rfl rfl (op_assign (.base rfl)) ?_
        refine jg_nil ?_
        refine jn_keep [4] [] (.cons rfl .nil) .nil ?_
        refine jn_seq (j_ret ?_)
        exact jr_fin1 Try.results9 (res_tmp rfl) rfl rfl

end Go.Proofs.Ytdfdonfhaadnmaa
