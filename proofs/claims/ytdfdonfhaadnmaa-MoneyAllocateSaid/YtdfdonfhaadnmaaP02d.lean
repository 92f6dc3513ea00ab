import Derived.Test.YtdfdonfhaadnmaaP02c
namespace Go.Proofs.Ytdfdonfhaadnmaa
open Go.Eng
set_option maxRecDepth 100000
set_option maxHeartbeats 4000000
set_option linter.unusedVariables false
set_option linter.unusedSimpArgs false


theorem mul_big {a x : Nat} (hx : 0 < x) (h : 1000000000000000 / x < a) : 1000000000000000 < a * x := (Nat.div_lt_iff_lt_mul hx).1 h
theorem mul_small {a x : Nat} (h : x = 0 ∨ a ≤ 1000000000000000 / x) : a * x ≤ 1000000000000000 := by
  rcases h with rfl | h
  · simp
  · exact Nat.le_trans (Nat.mul_le_mul_right _ h) (Nat.div_mul_le_self _ _)
theorem sgn_mul_le {v K : Nat} {u : Int} {neg : Bool} (h : v * u.natAbs ≤ K) : -(K : Int) ≤ sgn v neg * u ∧ sgn v neg * u ≤ K := by
  have : (sgn v neg * u).natAbs = v * u.natAbs := by rw [Int.natAbs_mul, sgn_abs]
  omega
theorem divV_mul {c u mode : Int} (hu : 0 < u) : divV c u mode * u.natAbs ≤ c.natAbs + u.natAbs := by
  have h := (rndM_mul (q := c.natAbs / u.natAbs) (r := c.natAbs % u.natAbs) (d := u.natAbs) (neg := ngv c u) (mode := mode)).1
  have := Nat.div_mul_le_self c.natAbs u.natAbs
  unfold divV; omega
theorem divR_v {c u mode : Int} (hm : modeOk mode = true) (hu : ¬ u < 1) (hc : -1000000000000000 ≤ c ∧ c ≤ 1000000000000000) (hu2 : u ≤ 1000000000000000) : divR c u mode = (sgn (divV c u mode) (ngv c u), 0) := by
  have b1 : byd c 4611686018427387904 = false := by simp [byd]; omega
  have b2 : byd u 4611686018427387904 = false := by simp [byd]; omega
  unfold divR
  rw [if_neg (by simp [hm]), if_neg (by omega), if_neg (by simp [b1, b2])]
theorem sumF_or {t x : Int} {l : List Int} (h : (byd x 1000000000000000 || byd (t + x) 1000000000000000) = true) : sumF t (x :: l) = (0, 3) := by
  rw [sumF]
  by_cases q : byd x 1000000000000000 = true
  · rw [if_pos q]
  · rw [if_neg q, if_pos (by simpa [q] using h)]
theorem byd_sgn {v : Nat} {neg : Bool} : byd (sgn v neg) 1000000000000000 = decide (1000000000000000 < v) := by
  rw [Bool.eq_iff_iff]; unfold sgn; simp [byd]; split <;> omega

theorem rmulDiv_ok (c num den mode : Int) : Ct Try.prog 14 [.raw (.int .i64 c), .raw (.int .i64 num), .raw (.int .i64 den), .raw (.int .i64 mode)] (svI2 (mdR c num den mode)) := by
  refine ct_intro Try.func14 rfl rfl Try.ntmps14 rfl rfl ?_
  intro w0 ok0
  refine j_seq ?_
  refine j_region ?_
  refine jg_adr _ rfl _ rfl rfl (op_assign (.base rfl)) ?_
  refine jg_adr _ rfl _ rfl rfl (op_assign (.base rfl)) ?_
  refine jg_nil ?_
  refine jn_keep [0, 1, 2, 3] [] (.cons rfl (.cons rfl (.cons rfl (.cons rfl .nil)))) .nil ?_
  refine jn_seq (j_seq (j_seq ?_))
  refine j_region ?_
  refine jg_adr _ rfl _ rfl rfl (op_move (.base rfl)) ?_
  refine jg_adr _ rfl _ rfl rfl (op_call (rmode_ok _) (.cons (.base rfl) .nil) rfl rfl) ?_
  refine jg_adr _ rfl _ rfl rfl (op_not (.base rfl)) ?_
  refine jg_nil ?_
  refine jn_keep [0, 1, 2, 3, 18] [] (.cons rfl (.cons rfl (.cons rfl (.cons rfl (.cons rfl .nil))))) .nil ?_
  refine jn_seq ?_
  refine j_cond rfl (fun h1 => ?_) (fun h1 => ?_)
  · have h1 : modeOk mode = false := by simpa using h1
    refine j_seq ?_
    refine j_region ?_
    refine jg_adr _ rfl _ rfl rfl (op_assign (.base rfl)) ?_
    refine jg_adr _ rfl _ rfl rfl (op_assign (.base rfl)) ?_
    refine jg_nil ?_
    refine jn_keep [8, 9] [] (.cons rfl (.cons rfl .nil)) .nil ?_
    refine jn_seq (j_ret (jr_seq ?_))
    exact jr_fin2 Try.results14 (res_tmp rfl) (res_tmp rfl) ⟨rfl, rfl⟩ (svI2_eq (by unfold mdR; rw [if_pos h1]))
  · have h1 : modeOk mode = true := by simpa using h1
    refine j_skip (jn_seq (j_seq (j_seq ?_)))
    refine j_region ?_
    refine jg_adr _ rfl _ rfl rfl (op_move (.base rfl)) ?_
    refine jg_adr _ rfl _ rfl rfl (op_eql (.base rfl) (.base rfl)) ?_
    refine jg_nil ?_
    refine jn_keep [0, 1, 2, 3, 20] [] (.cons rfl (.cons rfl (.cons rfl (.cons rfl (.cons rfl .nil))))) .nil ?_
    refine jn_seq ?_
    refine j_cond rfl (fun h3 => ?_) (fun h3 => ?_)
    · try simp at h3
      refine j_seq ?_
      refine j_region ?_
      refine jg_adr _ rfl _ rfl rfl (op_assign (.base rfl)) ?_
      refine jg_adr _ rfl _ rfl rfl (op_assign (.base rfl)) ?_
      refine jg_nil ?_
      refine jn_keep [8, 9] [] (.cons rfl (.cons rfl .nil)) .nil ?_
      refine jn_seq (j_ret (jr_seq ?_))
      exact jr_fin2 Try.results14 (res_tmp rfl) (res_tmp rfl) ⟨rfl, rfl⟩ (svI2_eq (by unfold mdR; simp [h1, h3]))
    · try simp at h3
      refine j_skip (jn_seq (j_seq (j_seq ?_)))
      refine j_region ?_
      refine jg_adr _ rfl _ rfl rfl (op_move (.base rfl)) ?_
      refine jg_adr _ rfl _ rfl rfl (op_call (rbeyond_ok _ _ (by omega)) (.cons (.base rfl) (.cons (.base rfl) .nil)) rfl rfl) ?_
      refine jg_adr _ rfl _ rfl rfl (op_move (.base rfl)) ?_
      refine jg_gd _ _ _ _ _ _ rfl rfl rfl rfl rfl (fun hg => op_move (.base rfl)) ?_
      refine jg_gd _ _ _ _ _ _ rfl rfl rfl rfl rfl (fun hg => op_call (rbeyond_ok _ _ (by omega)) (.cons (.gd rfl hg) (.cons (.base rfl) .nil)) rfl rfl) ?_
      refine jg_adr _ rfl _ rfl rfl (op_pick_or (.base rfl) (.base rfl) rfl (by intro h; first | (rw [h]; rfl) | (rw [hg, h]; rfl) | (rw [h, hg]; rfl) | simp_all)) ?_
      refine jg_adr _ rfl _ rfl rfl (op_move (.base rfl)) ?_
      refine jg_gd _ _ _ _ _ _ rfl rfl rfl rfl rfl (fun hg => op_move (.base rfl)) ?_
      refine jg_gd _ _ _ _ _ _ rfl rfl rfl rfl rfl (fun hg => op_call (rbeyond_ok _ _ (by omega)) (.cons (.gd rfl hg) (.cons (.base rfl) .nil)) rfl rfl) ?_
      refine jg_adr _ rfl _ rfl rfl (op_pick_or (.base rfl) (.base rfl) rfl (by intro h; first | (rw [h]; rfl) | (rw [hg, h]; rfl) | (rw [h, hg]; rfl) | simp_all)) ?_
      refine jg_nil ?_
      refine jn_keep [0, 1, 2, 3, 30] [] (.cons rfl (.cons rfl (.cons rfl (.cons rfl (.cons rfl .nil))))) .nil ?_
      refine jn_seq ?_
      refine j_cond rfl (fun h5 => ?_) (fun h5 => ?_)
      · skip
        refine j_seq ?_
        refine j_region ?_
        refine jg_adr _ rfl _ rfl rfl (op_assign (.base rfl)) ?_
        refine jg_adr _ rfl _ rfl rfl (op_assign (.base rfl)) ?_
        refine jg_nil ?_
        refine jn_keep [8, 9] [] (.cons rfl (.cons rfl .nil)) .nil ?_
        refine jn_seq (j_ret (jr_seq ?_))
        exact jr_fin2 Try.results14 (res_tmp rfl) (res_tmp rfl) ⟨rfl, rfl⟩ (svI2_eq (by unfold mdR; simp [h1, h3, h5]))
      · have k5 := byd_f (orF (orF h5).1).1
        have k6 := byd_f (orF (orF h5).1).2
        have k7 := byd_f (orF h5).2
        have kd : 0 < den.natAbs := by omega
        refine j_skip (jn_seq (j_seq ?_))
        refine j_region ?_
        refine jg_adr _ rfl _ rfl rfl (op_move (.base rfl)) ?_
        refine jg_adr _ rfl _ rfl rfl (op_call (rabs_ok _ (by omega)) (.cons (.base rfl) .nil) rfl rfl) ?_
        refine jg_adr _ rfl _ rfl rfl (op_move (.base rfl)) ?_
        refine jg_adr _ rfl _ rfl rfl (op_call (rabs_ok _ (by omega)) (.cons (.base rfl) .nil) rfl rfl) ?_
        refine jg_adr _ rfl _ rfl rfl (op_move (.base rfl)) ?_
        refine jg_adr _ rfl _ rfl rfl (op_call (rabs_ok _ (by omega)) (.cons (.base rfl) .nil) rfl rfl) ?_
        refine jg_adr _ rfl _ rfl rfl (op_assign (.base rfl)) ?_
        refine jg_adr _ rfl _ rfl rfl (op_assign (.base rfl)) ?_
        refine jg_adr _ rfl _ rfl rfl (op_assign (.base rfl)) ?_
        refine jg_nil ?_
        refine jn_keep [0, 1, 2, 3, 10, 11, 12] [] (.cons rfl (.cons rfl (.cons rfl (.cons rfl (.cons rfl (.cons rfl (.cons rfl .nil))))))) .nil ?_
        refine jn_seq (j_seq (j_seq ?_))
        refine j_draw mo (by kernel_rfl) (
          AS.cons _ _ rfl (ga_adr rfl rfl rfl (op_move (.base rfl))) (
            AS.cons _ _ rfl (ga_adr rfl rfl rfl (op_gtr (.base rfl) (.base rfl))) (
            AS.cons _ _ rfl (ga_adr rfl rfl rfl (op_move (.base rfl))) (
            AS.cons _ _ rfl (ga_gd _ _ _ _ rfl rfl rfl rfl rfl (fun hg => op_move (.base rfl))) (
            AS.cons _ _ rfl (ga_gd _ _ _ _ rfl rfl rfl rfl rfl (fun hg => op_move (.base rfl))) (
            AS.cons _ _ rfl (ga_gd _ _ _ _ rfl rfl rfl rfl rfl (fun hg => op_quo (.gd rfl hg) (.gd rfl hg) (by omega) (quo_natI (by omega)))) (
            AS.cons _ _ rfl (ga_gd _ _ _ _ rfl rfl rfl rfl rfl (fun hg => op_move (.base rfl))) (
            AS.cons _ _ rfl (ga_gd _ _ _ _ rfl rfl rfl rfl rfl (fun hg => op_quo (.base rfl) (.gd rfl hg) (by have := of_decide_eq_true (beq_iff_eq.1 hg); omega) (quo_natI (n := 1000000000000000) (by omega)))) (
            AS.cons _ _ rfl (ga_gd _ _ _ _ rfl rfl rfl rfl rfl (fun hg => op_gtr (.gd rfl hg) (.gd rfl hg))) (
            AS.cons _ _ rfl (ga_adr rfl rfl rfl (op_pick_and (.base rfl) (.base rfl) rfl (by intro h; first | (rw [h]; rfl) | (rw [hg, h]; rfl) | (rw [h, hg]; rfl) | simp_all))) (
            AS.nil))))))))))) ?_
        refine jn_keep [0, 1, 2, 3, 10, 11, 12, 46] [] (.cons rfl (.cons rfl (.cons rfl (.cons rfl (.cons rfl (.cons rfl (.cons rfl (.cons rfl .nil)))))))) .nil ?_
        refine jn_seq ?_
        refine j_cond rfl (fun h8 => ?_) (fun h8 => ?_)
        · have k8 : 0 < num.natAbs ∧ 1000000000000000 / num.natAbs < c.natAbs / den.natAbs := by simp only [Bool.and_eq_true, decide_eq_true_eq] at h8; omega
          have k9 : 1000000000000000 < mdV c num den mode := by
            have q1 := mul_big k8.1 k8.2
            have q2 := (dv_qr (a := c.natAbs) (x := num.natAbs) kd).1
            have q3 := (rndM_le (c.natAbs * num.natAbs / den.natAbs) (c.natAbs * num.natAbs % den.natAbs) den.natAbs (ngv3 c num den) mode).2
            exact Nat.lt_of_lt_of_le q1 (Nat.le_trans (by rw [← q2]; exact Nat.le_add_right _ _) q3)
          refine j_seq ?_
          refine j_region ?_
          refine jg_adr _ rfl _ rfl rfl (op_assign (.base rfl)) ?_
          refine jg_adr _ rfl _ rfl rfl (op_assign (.base rfl)) ?_
          refine jg_nil ?_
          refine jn_keep [8, 9] [] (.cons rfl (.cons rfl .nil)) .nil ?_
          refine jn_seq (j_ret (jr_seq ?_))
          exact jr_fin2 Try.results14 (res_tmp rfl) (res_tmp rfl) ⟨rfl, rfl⟩ (svI2_eq (by unfold mdR; rw [if_neg (by simp [h1]), if_neg h3, if_neg (by simp [h5]), if_pos k9]))
        · have k8 : c.natAbs / den.natAbs * num.natAbs ≤ 1000000000000000 := mul_small (by simp only [Bool.and_eq_false_iff, decide_eq_false_iff_not] at h8; omega)
          have km : c.natAbs % den.natAbs * num.natAbs ≤ 1000000000 * 1000000000 := Nat.mul_le_mul (Nat.le_trans (Nat.le_of_lt (Nat.mod_lt _ kd)) (by omega)) (by omega)
          have kq := Nat.div_le_self (c.natAbs % den.natAbs * num.natAbs) den.natAbs
          have kq2 : c.natAbs % den.natAbs * num.natAbs / den.natAbs ≤ 1000000000000000000 := by omega
          have kq3 := (dv_qr (a := c.natAbs) (x := num.natAbs) kd).1
          refine j_skip (jn_seq (j_seq ?_))
          refine j_region ?_
          refine jg_adr _ rfl _ rfl rfl (op_move (.base rfl)) ?_
          refine jg_adr _ rfl _ rfl rfl (op_move (.base rfl)) ?_
          refine jg_adr _ rfl _ rfl rfl (op_rem_e (.base rfl) (.base rfl) (by omega) rem_nat) ?_
          refine jg_adr _ rfl _ rfl rfl (op_move (.base rfl)) ?_
          refine jg_adr _ rfl _ rfl rfl (op_mul (.base rfl) (.base rfl) (mul_natI (by omega))) ?_
          refine jg_adr _ rfl _ rfl rfl (op_assign (.base rfl)) ?_
          refine jg_nil ?_
          refine jn_keep [0, 1, 2, 3, 10, 11, 12, 13] [] (.cons rfl (.cons rfl (.cons rfl (.cons rfl (.cons rfl (.cons rfl (.cons rfl (.cons rfl .nil)))))))) .nil ?_
          refine jn_seq (j_seq ?_)
          refine j_region ?_
          refine jg_adr _ rfl _ rfl rfl (op_move (.base rfl)) ?_
          refine jg_adr _ rfl _ rfl rfl (op_lss (.base rfl) (.base rfl)) ?_
          refine jg_adr _ rfl _ rfl rfl (op_move (.base rfl)) ?_
          refine jg_adr _ rfl _ rfl rfl (op_lss (.base rfl) (.base rfl)) ?_
          refine jg_adr _ rfl _ rfl rfl (op_neq_bool Try.underlying4 (.base rfl) (.base rfl)) ?_
          refine jg_adr _ rfl _ rfl rfl (op_move (.base rfl)) ?_
          refine jg_adr _ rfl _ rfl rfl (op_lss (.base rfl) (.base rfl)) ?_
          refine jg_adr _ rfl _ rfl rfl (op_neq_bool Try.underlying4 (.base rfl) (.base rfl)) ?_
          refine jg_adr _ rfl _ rfl rfl (op_assign (.base rfl)) ?_
          refine jg_nil ?_
          refine jn_keep [3, 10, 11, 12, 13, 14] [] (.cons rfl (.cons rfl (.cons rfl (.cons rfl (.cons rfl (.cons rfl .nil)))))) .nil ?_
          refine jn_seq (j_seq ?_)
          refine j_draw mo (by kernel_rfl) (
            AS.cons _ _ rfl (ga_adr rfl rfl rfl (op_move (.base rfl))) (
              AS.cons _ _ rfl (ga_adr rfl rfl rfl (op_move (.base rfl))) (
              AS.cons _ _ rfl (ga_adr rfl rfl rfl (op_quo (.base rfl) (.base rfl) (by omega) (quo_natI (by omega)))) (
              AS.cons _ _ rfl (ga_adr rfl rfl rfl (op_move (.base rfl))) (
              AS.cons _ _ rfl (ga_adr rfl rfl rfl (op_mul (.base rfl) (.base rfl) (mul_natI (by omega)))) (
              AS.cons _ _ rfl (ga_adr rfl rfl rfl (op_move (.base rfl))) (
              AS.cons _ _ rfl (ga_adr rfl rfl rfl (op_move (.base rfl))) (
              AS.cons _ _ rfl (ga_adr rfl rfl rfl (op_quo (.base rfl) (.base rfl) (by omega) (quo_natI (by omega)))) (
              AS.cons _ _ rfl (ga_adr rfl rfl rfl (op_add (.base rfl) (.base rfl) (toN (add_natI (by omega)) (dv_qr kd).1))) (
              AS.cons _ _ rfl (ga_adr rfl rfl rfl (op_move (.base rfl))) (
              AS.cons _ _ rfl (ga_adr rfl rfl rfl (op_move (.base rfl))) (
              AS.cons _ _ rfl (ga_adr rfl rfl rfl (op_rem_e (.base rfl) (.base rfl) (by omega) (toN rem_nat (dv_qr kd).2))) (
              AS.cons _ _ rfl (ga_adr rfl rfl rfl (op_move (.base rfl))) (
              AS.cons _ _ rfl (ga_adr rfl rfl rfl (op_move (.base rfl))) (
              AS.cons _ _ rfl (ga_adr rfl rfl rfl (op_move (.base rfl))) (
              AS.cons _ _ rfl (ga_adr rfl rfl rfl (op_call (rrounded_ok _ _ _ _ _ (Nat.mod_lt _ kd) (by omega) (by omega)) (.cons (.base rfl) (.cons (.base rfl) (.cons (.base rfl) (.cons (.base rfl) (.cons (.base rfl) .nil))))) rfl rfl)) (
              AS.cons _ _ rfl (ga_adr rfl rfl rfl (op_assign (.base rfl))) (
              AS.nil)))))))))))))))))) ?_
          refine jn_keep [15] [] (.cons rfl .nil) .nil ?_
          refine jn_seq (j_seq (j_seq ?_))
          refine j_region ?_
          refine jg_adr _ rfl _ rfl rfl (op_move (.base rfl)) ?_
          refine jg_adr _ rfl _ rfl rfl (op_call (rbeyond_ok _ _ (by omega)) (.cons (.base rfl) (.cons (.base rfl) .nil)) rfl rfl) ?_
          refine jg_nil ?_
          refine jn_keep [15, 77] [] (.cons rfl (.cons rfl .nil)) .nil ?_
          refine jn_seq ?_
          refine j_cond rfl (fun h13 => ?_) (fun h13 => ?_)
          · have k9 : 1000000000000000 < mdV c num den mode := by rw [byd_sgn] at h13; exact of_decide_eq_true h13
            refine j_seq ?_
            refine j_region ?_
            refine jg_adr _ rfl _ rfl rfl (op_assign (.base rfl)) ?_
            refine jg_adr _ rfl _ rfl rfl (op_assign (.base rfl)) ?_
            refine jg_nil ?_
            refine jn_keep [8, 9] [] (.cons rfl (.cons rfl .nil)) .nil ?_
            refine jn_seq (j_ret (jr_seq ?_))
            exact jr_fin2 Try.results14 (res_tmp rfl) (res_tmp rfl) ⟨rfl, rfl⟩ (svI2_eq (by unfold mdR; rw [if_neg (by simp [h1]), if_neg h3, if_neg (by simp [h5]), if_pos k9]))
          · have k9 : ¬ 1000000000000000 < mdV c num den mode := by rw [byd_sgn] at h13; exact of_decide_eq_false h13
            refine j_skip (jn_seq (j_seq ?_))
            refine j_region ?_
            refine jg_adr _ rfl _ rfl rfl (op_move (.base rfl)) ?_
            refine jg_adr _ rfl _ rfl rfl (op_assign (.base rfl)) ?_
            refine jg_adr _ rfl _ rfl rfl (op_assign (.base rfl)) ?_
            refine jg_nil ?_
            refine jn_keep [8, 9] [] (.cons rfl (.cons rfl .nil)) .nil ?_
            refine jn_seq (j_ret ?_)
            exact jr_fin2 Try.results14 (res_tmp rfl) (res_tmp rfl) ⟨rfl, rfl⟩ (svI2_eq (by unfold mdR; rw [if_neg (by simp [h1]), if_neg h3, if_neg (by simp [h5]), if_neg k9]; rfl))

theorem roundTo_ok (c unit mode : Int) : Ct Try.prog 15 [.raw (.int .i64 c), .raw (.int .i64 unit), .raw (.int .i64 mode)] (svI2 (rtR c unit mode)) := by
  refine ct_intro Try.func15 rfl rfl Try.ntmps15 rfl rfl ?_
  intro w0 ok0
  refine j_seq ?_
  refine j_region ?_
  refine jg_adr _ rfl _ rfl rfl (op_assign (.base rfl)) ?_
  refine jg_adr _ rfl _ rfl rfl (op_assign (.base rfl)) ?_
  refine jg_nil ?_
  refine jn_keep [0, 1, 2] [] (.cons rfl (.cons rfl (.cons rfl .nil))) .nil ?_
  refine jn_seq (j_seq (j_seq ?_))
  refine j_region ?_
  refine jg_adr _ rfl _ rfl rfl (op_move (.base rfl)) ?_
  refine jg_adr _ rfl _ rfl rfl (op_call (validModeM_ok _) (.cons (.base rfl) .nil) rfl rfl) ?_
  refine jg_adr _ rfl _ rfl rfl (op_not (.base rfl)) ?_
  refine jg_nil ?_
  refine jn_keep [0, 1, 2, 12] [] (.cons rfl (.cons rfl (.cons rfl (.cons rfl .nil)))) .nil ?_
  refine jn_seq ?_
  refine j_cond rfl (fun h1 => ?_) (fun h1 => ?_)
  · have h1 : modeOk mode = false := by simpa using h1
    refine j_seq ?_
    refine j_region ?_
    refine jg_adr _ rfl _ rfl rfl (op_assign (.base rfl)) ?_
    refine jg_adr _ rfl _ rfl rfl (op_assign (.base rfl)) ?_
    refine jg_nil ?_
    refine jn_keep [6, 7] [] (.cons rfl (.cons rfl .nil)) .nil ?_
    refine jn_seq (j_ret (jr_seq ?_))
    exact jr_fin2 Try.results15 (res_tmp rfl) (res_tmp rfl) ⟨rfl, rfl⟩ (svI2_eq (by unfold rtR; rw [if_pos h1]))
  · have h1 : modeOk mode = true := by simpa using h1
    refine j_skip (jn_seq (j_seq (j_seq ?_)))
    refine j_region ?_
    refine jg_adr _ rfl _ rfl rfl (op_move (.base rfl)) ?_
    refine jg_adr _ rfl _ rfl rfl (op_lss (.base rfl) (.base rfl)) ?_
    refine jg_nil ?_
    refine jn_keep [0, 1, 2, 14] [] (.cons rfl (.cons rfl (.cons rfl (.cons rfl .nil)))) .nil ?_
    refine jn_seq ?_
    refine j_cond rfl (fun h3 => ?_) (fun h3 => ?_)
    · have h3 : unit < 1 := of_decide_eq_true h3
      refine j_seq ?_
      refine j_region ?_
      refine jg_adr _ rfl _ rfl rfl (op_assign (.base rfl)) ?_
      refine jg_adr _ rfl _ rfl rfl (op_assign (.base rfl)) ?_
      refine jg_nil ?_
      refine jn_keep [6, 7] [] (.cons rfl (.cons rfl .nil)) .nil ?_
      refine jn_seq (j_ret (jr_seq ?_))
      exact jr_fin2 Try.results15 (res_tmp rfl) (res_tmp rfl) ⟨rfl, rfl⟩ (svI2_eq (by unfold rtR; simp [h1, h3]))
    · have h3 : ¬ unit < 1 := of_decide_eq_false h3
      refine j_skip (jn_seq (j_seq (j_seq ?_)))
      refine j_region ?_
      refine jg_adr _ rfl _ rfl rfl (op_move (.base rfl)) ?_
      refine jg_adr _ rfl _ rfl rfl (op_call (beyond_ok _ _ (by omega)) (.cons (.base rfl) (.cons (.base rfl) .nil)) rfl rfl) ?_
      refine jg_adr _ rfl _ rfl rfl (op_move (.base rfl)) ?_
      refine jg_gd _ _ _ _ _ _ rfl rfl rfl rfl rfl (fun hg => op_move (.base rfl)) ?_
      refine jg_gd _ _ _ _ _ _ rfl rfl rfl rfl rfl (fun hg => op_gtr (.gd rfl hg) (.base rfl)) ?_
      refine jg_adr _ rfl _ rfl rfl (op_pick_or (.base rfl) (.base rfl) rfl (by intro h; first | (rw [h]; rfl) | (rw [hg, h]; rfl) | (rw [h, hg]; rfl) | simp_all)) ?_
      refine jg_nil ?_
      refine jn_keep [0, 1, 2, 20] [] (.cons rfl (.cons rfl (.cons rfl (.cons rfl .nil)))) .nil ?_
      refine jn_seq ?_
      refine j_cond rfl (fun h5 => ?_) (fun h5 => ?_)
      · skip
        refine j_seq ?_
        refine j_region ?_
        refine jg_adr _ rfl _ rfl rfl (op_assign (.base rfl)) ?_
        refine jg_adr _ rfl _ rfl rfl (op_assign (.base rfl)) ?_
        refine jg_nil ?_
        refine jn_keep [6, 7] [] (.cons rfl (.cons rfl .nil)) .nil ?_
        refine jn_seq (j_ret (jr_seq ?_))
        exact jr_fin2 Try.results15 (res_tmp rfl) (res_tmp rfl) ⟨rfl, rfl⟩ (svI2_eq (by unfold rtR; rw [if_neg (by simp [h1]), if_neg h3, if_pos h5]))
      · have k5 := byd_f (orF h5).1
        have k6 := of_decide_eq_false (orF h5).2
        have k6 : unit ≤ 1000000000000000 := by omega
        have kv := divV_mul (c := c) (u := unit) (mode := mode) (by omega)
        have kw := sgn_mul_le (neg := ngv c unit) (K := 2000000000000000) (Nat.le_trans kv (by omega))
        have kdiv := divR_v h1 h3 k5 k6
        refine j_skip (jn_seq (j_seq ?_))
        refine j_region ?_
        refine jg_adr _ rfl _ rfl rfl (op_move (.base rfl)) ?_
        refine jg_adr _ rfl _ rfl rfl (op_move (.base rfl)) ?_
        refine jg_adr _ rfl _ rfl rfl (op_move (.base rfl)) ?_
        refine jg_adr _ rfl _ rfl rfl (op_call (show Ct _ _ _ (.tup2 (.raw (.int .i64 (sgn (divV c unit mode) (ngv c unit)))) (.raw (.int .i64 0))) from (by have := divRound_ok c unit mode; rw [kdiv] at this; exact this)) (.cons (.base rfl) (.cons (.base rfl) (.cons (.base rfl) .nil))) rfl rfl) ?_
        refine jg_adr _ rfl _ rfl rfl (op_move (.base rfl)) ?_
        refine jg_adr _ rfl _ rfl rfl (op_ext20 (.base rfl)) ?_
        refine jg_adr _ rfl _ rfl rfl (op_ext21 (.base rfl)) ?_
        refine jg_adr _ rfl _ rfl rfl (op_assign (.base rfl)) ?_
        refine jg_adr _ rfl _ rfl rfl (op_assign (.base rfl)) ?_
        refine jg_nil ?_
        refine jn_keep [1, 8, 9] [] (.cons rfl (.cons rfl (.cons rfl .nil))) .nil ?_
        refine jn_seq (j_seq (j_seq ?_))
        refine j_region ?_
        refine jg_adr _ rfl _ rfl rfl (op_move (.base rfl)) ?_
        refine jg_adr _ rfl _ rfl rfl (op_neq (.base rfl) (.base rfl)) ?_
        refine jg_nil ?_
        refine jn_keep [1, 8, 9, 29] [] (.cons rfl (.cons rfl (.cons rfl (.cons rfl .nil)))) .nil ?_
        refine jn_seq ?_
        refine j_cond rfl (fun h8 => ?_) (fun h8 => ?_)
        · exact absurd h8 (by decide)
        · skip
          refine j_skip (jn_seq (j_seq (j_seq ?_)))
          refine j_region ?_
          refine jg_adr _ rfl _ rfl rfl (op_move (.base rfl)) ?_
          refine jg_adr _ rfl _ rfl rfl (op_move (.base rfl)) ?_
          refine jg_adr _ rfl _ rfl rfl (op_mul (.base rfl) (.base rfl) (w64 (by omega))) ?_
          refine jg_adr _ rfl _ rfl rfl (op_call (beyond_ok _ _ (by omega)) (.cons (.base rfl) (.cons (.base rfl) .nil)) rfl rfl) ?_
          refine jg_nil ?_
          refine jn_keep [1, 8, 34] [] (.cons rfl (.cons rfl (.cons rfl .nil))) .nil ?_
          refine jn_seq ?_
          refine j_cond rfl (fun h10 => ?_) (fun h10 => ?_)
          · skip
            refine j_seq ?_
            refine j_region ?_
            refine jg_adr _ rfl _ rfl rfl (op_assign (.base rfl)) ?_
            refine jg_adr _ rfl _ rfl rfl (op_assign (.base rfl)) ?_
            refine jg_nil ?_
            refine jn_keep [6, 7] [] (.cons rfl (.cons rfl .nil)) .nil ?_
            refine jn_seq (j_ret (jr_seq ?_))
            exact jr_fin2 Try.results15 (res_tmp rfl) (res_tmp rfl) ⟨rfl, rfl⟩ (svI2_eq (by unfold rtR; rw [if_neg (by simp [h1]), if_neg h3, if_neg (by rw [h5]; simp), if_pos h10]))
          · skip
            refine j_skip (jn_seq (j_seq ?_))
            refine j_region ?_
            refine jg_adr _ rfl _ rfl rfl (op_move (.base rfl)) ?_
            refine jg_adr _ rfl _ rfl rfl (op_move (.base rfl)) ?_
            refine jg_adr _ rfl _ rfl rfl (op_mul (.base rfl) (.base rfl) (w64 (by omega))) ?_
            refine jg_adr _ rfl _ rfl rfl (op_assign (.base rfl)) ?_
            refine jg_adr _ rfl _ rfl rfl (op_assign (.base rfl)) ?_
            refine jg_nil ?_
            refine jn_keep [6, 7] [] (.cons rfl (.cons rfl .nil)) .nil ?_
            refine jn_seq (j_ret ?_)
            exact jr_fin2 Try.results15 (res_tmp rfl) (res_tmp rfl) ⟨rfl, rfl⟩ (svI2_eq (by unfold rtR; rw [if_neg (by simp [h1]), if_neg h3, if_neg (by rw [h5]; simp), if_neg (by rw [h10]; simp)]))

theorem rroundTo_ok (c unit mode : Int) : Ct Try.prog 16 [.raw (.int .i64 c), .raw (.int .i64 unit), .raw (.int .i64 mode)] (svI2 (rtR c unit mode)) := by
  refine ct_intro Try.func16 rfl rfl Try.ntmps16 rfl rfl ?_
  intro w0 ok0
  refine j_seq ?_
  refine j_region ?_
  refine jg_adr _ rfl _ rfl rfl (op_assign (.base rfl)) ?_
  refine jg_adr _ rfl _ rfl rfl (op_assign (.base rfl)) ?_
  refine jg_nil ?_
  refine jn_keep [0, 1, 2] [] (.cons rfl (.cons rfl (.cons rfl .nil))) .nil ?_
  refine jn_seq (j_seq (j_seq ?_))
  refine j_region ?_
  refine jg_adr _ rfl _ rfl rfl (op_move (.base rfl)) ?_
  refine jg_adr _ rfl _ rfl rfl (op_call (rmode_ok _) (.cons (.base rfl) .nil) rfl rfl) ?_
  refine jg_adr _ rfl _ rfl rfl (op_not (.base rfl)) ?_
  refine jg_nil ?_
  refine jn_keep [0, 1, 2, 12] [] (.cons rfl (.cons rfl (.cons rfl (.cons rfl .nil)))) .nil ?_
  refine jn_seq ?_
  refine j_cond rfl (fun h1 => ?_) (fun h1 => ?_)
  · have h1 : modeOk mode = false := by simpa using h1
    refine j_seq ?_
    refine j_region ?_
    refine jg_adr _ rfl _ rfl rfl (op_assign (.base rfl)) ?_
    refine jg_adr _ rfl _ rfl rfl (op_assign (.base rfl)) ?_
    refine jg_nil ?_
    refine jn_keep [6, 7] [] (.cons rfl (.cons rfl .nil)) .nil ?_
    refine jn_seq (j_ret (jr_seq ?_))
    exact jr_fin2 Try.results16 (res_tmp rfl) (res_tmp rfl) ⟨rfl, rfl⟩ (svI2_eq (by unfold rtR; rw [if_pos h1]))
  · have h1 : modeOk mode = true := by simpa using h1
    refine j_skip (jn_seq (j_seq (j_seq ?_)))
    refine j_region ?_
    refine jg_adr _ rfl _ rfl rfl (op_move (.base rfl)) ?_
    refine jg_adr _ rfl _ rfl rfl (op_lss (.base rfl) (.base rfl)) ?_
    refine jg_nil ?_
    refine jn_keep [0, 1, 2, 14] [] (.cons rfl (.cons rfl (.cons rfl (.cons rfl .nil)))) .nil ?_
    refine jn_seq ?_
    refine j_cond rfl (fun h3 => ?_) (fun h3 => ?_)
    · have h3 : unit < 1 := of_decide_eq_true h3
      refine j_seq ?_
      refine j_region ?_
      refine jg_adr _ rfl _ rfl rfl (op_assign (.base rfl)) ?_
      refine jg_adr _ rfl _ rfl rfl (op_assign (.base rfl)) ?_
      refine jg_nil ?_
      refine jn_keep [6, 7] [] (.cons rfl (.cons rfl .nil)) .nil ?_
      refine jn_seq (j_ret (jr_seq ?_))
      exact jr_fin2 Try.results16 (res_tmp rfl) (res_tmp rfl) ⟨rfl, rfl⟩ (svI2_eq (by unfold rtR; simp [h1, h3]))
    · have h3 : ¬ unit < 1 := of_decide_eq_false h3
      refine j_skip (jn_seq (j_seq (j_seq ?_)))
      refine j_region ?_
      refine jg_adr _ rfl _ rfl rfl (op_move (.base rfl)) ?_
      refine jg_adr _ rfl _ rfl rfl (op_call (rbeyond_ok _ _ (by omega)) (.cons (.base rfl) (.cons (.base rfl) .nil)) rfl rfl) ?_
      refine jg_adr _ rfl _ rfl rfl (op_move (.base rfl)) ?_
      refine jg_gd _ _ _ _ _ _ rfl rfl rfl rfl rfl (fun hg => op_move (.base rfl)) ?_
      refine jg_gd _ _ _ _ _ _ rfl rfl rfl rfl rfl (fun hg => op_gtr (.gd rfl hg) (.base rfl)) ?_
      refine jg_adr _ rfl _ rfl rfl (op_pick_or (.base rfl) (.base rfl) rfl (by intro h; first | (rw [h]; rfl) | (rw [hg, h]; rfl) | (rw [h, hg]; rfl) | simp_all)) ?_
      refine jg_nil ?_
      refine jn_keep [0, 1, 2, 20] [] (.cons rfl (.cons rfl (.cons rfl (.cons rfl .nil)))) .nil ?_
      refine jn_seq ?_
      refine j_cond rfl (fun h5 => ?_) (fun h5 => ?_)
      · skip
        refine j_seq ?_
        refine j_region ?_
        refine jg_adr _ rfl _ rfl rfl (op_assign (.base rfl)) ?_
        refine jg_adr _ rfl _ rfl rfl (op_assign (.base rfl)) ?_
        refine jg_nil ?_
        refine jn_keep [6, 7] [] (.cons rfl (.cons rfl .nil)) .nil ?_
        refine jn_seq (j_ret (jr_seq ?_))
        exact jr_fin2 Try.results16 (res_tmp rfl) (res_tmp rfl) ⟨rfl, rfl⟩ (svI2_eq (by unfold rtR; rw [if_neg (by simp [h1]), if_neg h3, if_pos h5]))
      · have k5 := byd_f (orF h5).1
        have k6 := of_decide_eq_false (orF h5).2
        have k6 : unit ≤ 1000000000000000 := by omega
        have kv := divV_mul (c := c) (u := unit) (mode := mode) (by omega)
        have kw := sgn_mul_le (neg := ngv c unit) (K := 2000000000000000) (Nat.le_trans kv (by omega))
        have kdiv := divR_v h1 h3 k5 k6
        clear kdiv
        obtain ⟨u, rfl⟩ : ∃ u : Nat, unit = (u : Int) := ⟨unit.toNat, by omega⟩
        have kn : decide (c < 0) = ngv c (u : Int) := by rw [ngv, decide_eq_false (show ¬ ((u : Nat) : Int) < 0 by omega)]; cases decide (c < 0) <;> rfl
        refine j_skip (jn_seq (j_seq ?_))
        refine j_region ?_
        refine jg_adr _ rfl _ rfl rfl (op_move (.base rfl)) ?_
        refine jg_adr _ rfl _ rfl rfl (op_call (rabs_ok _ (by omega)) (.cons (.base rfl) .nil) rfl rfl) ?_
        refine jg_adr _ rfl _ rfl rfl (op_assign (.base rfl)) ?_
        refine jg_nil ?_
        refine jn_keep [0, 1, 2, 8] [] (.cons rfl (.cons rfl (.cons rfl (.cons rfl .nil)))) .nil ?_
        refine jn_seq (j_seq ?_)
        have kw2 : -9223372036854775808 ≤ sgn (divV c (u : Int) mode) (ngv c (u : Int)) * (u : Int) ∧ sgn (divV c (u : Int) mode) (ngv c (u : Int)) * (u : Int) ≤ 9223372036854775807 := by omega
        refine j_draw mo (by kernel_rfl) (
          AS.cons _ _ rfl (ga_adr rfl rfl rfl (op_move (.base rfl))) (
            AS.cons _ _ rfl (ga_adr rfl rfl rfl (op_move (.base rfl))) (
            AS.cons _ _ rfl (ga_adr rfl rfl rfl (op_quo (.base rfl) (.base rfl) (by omega) (quo_natI (by omega)))) (
            AS.cons _ _ rfl (ga_adr rfl rfl rfl (op_move (.base rfl))) (
            AS.cons _ _ rfl (ga_adr rfl rfl rfl (op_move (.base rfl))) (
            AS.cons _ _ rfl (ga_adr rfl rfl rfl (op_rem_e (.base rfl) (.base rfl) (by omega) rem_nat)) (
            AS.cons _ _ rfl (ga_adr rfl rfl rfl (op_move (.base rfl))) (
            AS.cons _ _ rfl (ga_adr rfl rfl rfl (op_move (.base rfl))) (
            AS.cons _ _ rfl (ga_adr rfl rfl rfl ((show Adr _ _ _ _ (.raw (.bool (ngv c (u : Int)))) from kn ▸ op_lss (.base rfl) (.base rfl)))) (
            AS.cons _ _ rfl (ga_adr rfl rfl rfl (op_move (.base rfl))) (
            AS.cons _ _ rfl (ga_adr rfl rfl rfl (op_call (rrounded_ok _ _ _ (ngv c (u : Int)) _ (Nat.mod_lt _ (by omega)) (by omega) (Nat.lt_of_le_of_lt (Nat.div_le_self _ _) (by omega))) (.cons (.base rfl) (.cons (.base rfl) (.cons (.base rfl) (.cons (.base rfl) (.cons (.base rfl) .nil))))) rfl rfl)) (
            AS.cons _ _ rfl (ga_adr rfl rfl rfl (op_move (.base rfl))) (
            AS.cons _ _ rfl (ga_adr rfl rfl rfl (op_mul (.base rfl) (.base rfl) (w64 kw2))) (
            AS.cons _ _ rfl (ga_adr rfl rfl rfl (op_assign (.base rfl))) (
            AS.nil))))))))))))))) ?_
        refine jn_keep [9] [] (.cons rfl .nil) .nil ?_
        refine jn_seq (j_seq (j_seq ?_))
        refine j_region ?_
        refine jg_adr _ rfl _ rfl rfl (op_move (.base rfl)) ?_
        refine jg_adr _ rfl _ rfl rfl (op_call (rbeyond_ok _ _ (by omega)) (.cons (.base rfl) (.cons (.base rfl) .nil)) rfl rfl) ?_
        refine jg_nil ?_
        refine jn_keep [9, 37] [] (.cons rfl (.cons rfl .nil)) .nil ?_
        refine jn_seq ?_
        refine j_cond rfl (fun h9 => ?_) (fun h9 => ?_)
        · skip
          refine j_seq ?_
          refine j_region ?_
          refine jg_adr _ rfl _ rfl rfl (op_assign (.base rfl)) ?_
          refine jg_adr _ rfl _ rfl rfl (op_assign (.base rfl)) ?_
          refine jg_nil ?_
          refine jn_keep [6, 7] [] (.cons rfl (.cons rfl .nil)) .nil ?_
          refine jn_seq (j_ret (jr_seq ?_))
          exact jr_fin2 Try.results16 (res_tmp rfl) (res_tmp rfl) ⟨rfl, rfl⟩ (svI2_eq (by unfold rtR; rw [if_neg (by simp [h1]), if_neg h3, if_neg (by rw [h5]; simp), if_pos (by exact h9)]))
        · skip
          refine j_skip (jn_seq (j_seq ?_))
          refine j_region ?_
          refine jg_adr _ rfl _ rfl rfl (op_move (.base rfl)) ?_
          refine jg_adr _ rfl _ rfl rfl (op_assign (.base rfl)) ?_
          refine jg_adr _ rfl _ rfl rfl (op_assign (.base rfl)) ?_
          refine jg_nil ?_
          refine jn_keep [6, 7] [] (.cons rfl (.cons rfl .nil)) .nil ?_
          refine jn_seq (j_ret ?_)
          exact jr_fin2 Try.results16 (res_tmp rfl) (res_tmp rfl) ⟨rfl, rfl⟩ (svI2_eq (by unfold rtR; rw [if_neg (by simp [h1]), if_neg h3, if_neg (by rw [h5]; simp), if_neg (by intro q; exact absurd (h9.symm.trans q) (by simp))]; rfl))

theorem sum_ok (l : List Int) : Ct Try.prog 22 [.tv (rSlice (rInt .i64)) l] (svI2 (sumF 0 l)) := by
  refine ct_intro Try.func22 rfl rfl Try.ntmps22 rfl rfl ?_
  intro w0 ok0
  refine j_len 0 rfl (fun hl0 => ?_)
  refine j_seq ?_
  refine j_region ?_
  refine jg_adr _ rfl _ rfl rfl (op_assign (.base rfl)) ?_
  refine jg_adr _ rfl _ rfl rfl (op_assign (.base rfl)) ?_
  refine jg_nil ?_
  refine jn_keep [0] [] (.cons rfl .nil) .nil ?_
  refine jn_seq (j_seq ?_)
  refine j_region ?_
  refine jg_adr _ rfl _ rfl rfl (op_assign (.base rfl)) ?_
  refine jg_nil ?_
  refine jn_keep [0, 4] [] (.cons rfl (.cons rfl .nil)) .nil ?_
  refine jn_seq (j_seq (j_seq ?_))
  refine j_region ?_
  refine jg_adr _ rfl _ rfl rfl (op_move (.base rfl)) ?_
  refine jg_adr _ rfl _ rfl rfl (op_len Try.underlying29 (.base rfl)) ?_
  refine jg_adr _ rfl _ rfl rfl (op_move (.base rfl)) ?_
  refine jg_nil ?_
  refine jn_keep [4, 7, 8, 9] [] (.cons rfl (.cons rfl (.cons rfl (.cons rfl .nil)))) .nil ?_
  refine jn_seq (j_block ?_)
  refine j_loopp (ι := Nat × Int) (fun (k, t) => ⟨[(4, .raw (.int .i64 (t))), (7, .tv (rSlice (rInt .i64)) l), (8, .raw (.int .i64 (l.length))), (9, .raw (.int .i64 ((k : Nat))))], []⟩) (fun (k, t) => k ≤ l.length ∧ (-1000000000000000 ≤ t ∧ t ≤ 1000000000000000) ∧ sumF t (l.drop k) = sumF 0 l) (fun (k, t) => l.length - k) (0, 0) (⟨Nat.zero_le _, by omega, rfl⟩) (fun a w hi => (Sub.inv ⟨(by repeat (first | exact SubS_nil | refine SubS_cons rfl (by first | rfl | (simp; done) | assumption) ?_)), (by repeat (first | exact SubH_nil | refine SubH_cons rfl (by first | rfl | (simp; done) | assumption) ?_))⟩ hi)) ?_
  rintro ⟨k, t⟩ ⟨p1, p2, p3⟩
  refine j_seq ?_
  refine j_region ?_
  refine jg_adr _ rfl _ rfl rfl (op_lss (.base rfl) (.base rfl)) ?_
  refine jg_nil ?_
  refine jn_keep [4, 7, 8, 9, 10] [] (.cons rfl (.cons rfl (.cons rfl (.cons rfl (.cons rfl .nil))))) .nil ?_
  refine jn_seq (j_seq ?_)
  refine j_cond rfl (fun h3 => ?_) (fun h3 => ?_)
  · simp at h3
    have hd := List.drop_eq_getElem_cons h3
    refine j_skip (jn_seq (j_seq (j_block (j_seq ?_))))
    refine j_region ?_
    refine jg_adr _ rfl _ rfl rfl (op_index Try.underlying29 ty3 (.base rfl) (.base rfl) rfl (List.getElem?_eq_getElem (by first | omega | (simp; done) | (simp; omega) | (simp at hg; omega)))) ?_
    refine jg_adr _ rfl _ rfl rfl (op_load ty3 (.base rfl)) ?_
    refine jg_adr _ rfl _ rfl rfl (op_assign (.base rfl)) ?_
    refine jg_nil ?_
    refine jn_keep [4, 6, 7, 8, 9] [] (.cons rfl (.cons rfl (.cons rfl (.cons rfl (.cons rfl .nil))))) .nil ?_
    refine jn_seq (j_seq (j_seq ?_))
    refine j_region ?_
    refine jg_adr _ rfl _ rfl rfl (op_move (.base rfl)) ?_
    refine jg_adr _ rfl _ rfl rfl (op_call (beyond_ok _ _ (by omega)) (.cons (.base rfl) (.cons (.base rfl) .nil)) rfl rfl) ?_
    refine jg_nil ?_
    refine jn_keep [4, 6, 7, 8, 9, 14] [] (.cons rfl (.cons rfl (.cons rfl (.cons rfl (.cons rfl (.cons rfl .nil)))))) .nil ?_
    refine jn_seq ?_
    refine j_cond rfl (fun h5 => ?_) (fun h5 => ?_)
    · skip
      refine j_seq ?_
      refine j_region ?_
      refine jg_adr _ rfl _ rfl rfl (op_assign (.base rfl)) ?_
      refine jg_adr _ rfl _ rfl rfl (op_assign (.base rfl)) ?_
      refine jg_nil ?_
      refine jn_keep [2, 3] [] (.cons rfl (.cons rfl .nil)) .nil ?_
      refine jn_seq (j_ret (jr_seq (jr_blk (jr_seq (jr_loop (jr_blk (jr_seq ?_)))))))
      exact jr_fin2 Try.results22 (res_tmp rfl) (res_tmp rfl) ⟨rfl, rfl⟩ (svI2_eq (by rw [← p3, hd, sumF, if_pos h5]))
    · have k5 := byd_f h5
      refine j_skip (jn_seq (j_seq ?_))
      refine j_region ?_
      refine jg_adr _ rfl _ rfl rfl (op_move (.base rfl)) ?_
      refine jg_adr _ rfl _ rfl rfl (op_move (.base rfl)) ?_
      refine jg_adr _ rfl _ rfl rfl (op_add (.base rfl) (.base rfl) (w64 (by omega))) ?_
      refine jg_adr _ rfl _ rfl rfl (op_assign (.base rfl)) ?_
      refine jg_nil ?_
      refine jn_keep [4, 7, 8, 9] [] (.cons rfl (.cons rfl (.cons rfl (.cons rfl .nil)))) .nil ?_
      refine jn_seq (j_seq ?_)
      refine j_region ?_
      refine jg_adr _ rfl _ rfl rfl (op_move (.base rfl)) ?_
      refine jg_adr _ rfl _ rfl rfl (op_call (beyond_ok _ _ (by omega)) (.cons (.base rfl) (.cons (.base rfl) .nil)) rfl rfl) ?_
      refine jg_nil ?_
      refine jn_keep [4, 7, 8, 9, 19] [] (.cons rfl (.cons rfl (.cons rfl (.cons rfl (.cons rfl .nil))))) .nil ?_
      refine jn_seq ?_
      refine j_cond rfl (fun h8 => ?_) (fun h8 => ?_)
      · skip
        refine j_seq ?_
        refine j_region ?_
        refine jg_adr _ rfl _ rfl rfl (op_assign (.base rfl)) ?_
        refine jg_adr _ rfl _ rfl rfl (op_assign (.base rfl)) ?_
        refine jg_nil ?_
        refine jn_keep [2, 3] [] (.cons rfl (.cons rfl .nil)) .nil ?_
        refine jn_seq (j_ret (jr_blk (jr_seq (jr_loop (jr_blk (jr_seq ?_))))))
        exact jr_fin2 Try.results22 (res_tmp rfl) (res_tmp rfl) ⟨rfl, rfl⟩ (svI2_eq (by rw [← p3, hd, sumF, if_neg (by rw [h5]; simp), if_pos h8]))
      · skip
        refine j_skip (jn_blk (jn_seq ?_))
        refine j_region ?_
        refine jg_adr _ rfl _ rfl rfl (op_add (.base rfl) (.base rfl) (w64 (by omega))) ?_
        refine jg_adr _ rfl _ rfl rfl (op_move (.base rfl)) ?_
        refine jg_nil ?_
        refine jn_keep [4, 7, 8, 9] [] (.cons rfl (.cons rfl (.cons rfl (.cons rfl .nil)))) .nil ?_
        exact jn_loop (fun a w hi => ⟨(k + 1, t + l[k]), (by first | omega | (simp; omega)), (⟨by omega, byd_f h8, by rw [← p3, hd, sumF, if_neg (by rw [h5]; simp), if_neg (by rw [h8]; simp)]⟩), (Sub.inv ⟨(by repeat (first | exact SubS_nil | refine SubS_cons rfl (by first | rfl | (simp; done) | assumption) ?_)), (by repeat (first | exact SubH_nil | refine SubH_cons rfl (by first | rfl | (simp; done) | assumption) ?_))⟩ hi)⟩)
  · simp at h3
    refine j_exit (je_seq (je_loop (je_blk (jn_seq (j_seq ?_)))))
    refine j_region ?_
    refine jg_adr _ rfl _ rfl rfl (op_move (.base rfl)) ?_
    refine jg_adr _ rfl _ rfl rfl (op_assign (.base rfl)) ?_
    refine jg_adr _ rfl _ rfl rfl (op_assign (.base rfl)) ?_
    refine jg_nil ?_
    refine jn_keep [2, 3] [] (.cons rfl (.cons rfl .nil)) .nil ?_
    refine jn_seq (j_ret ?_)
    exact jr_fin2 Try.results22 (res_tmp rfl) (res_tmp rfl) ⟨rfl, rfl⟩ (svI2_eq (by rw [← p3, List.drop_of_length_le (by omega)]; rfl))

theorem rsum_ok (l : List Int) : Ct Try.prog 23 [.tv (rSlice (rInt .i64)) l] (svI2 (sumF 0 l)) := by
  refine ct_intro Try.func23 rfl rfl Try.ntmps23 rfl rfl ?_
  intro w0 ok0
  refine j_len 0 rfl (fun hl0 => ?_)
  refine j_seq ?_
  refine j_region ?_
  refine jg_adr _ rfl _ rfl rfl (op_assign (.base rfl)) ?_
  refine jg_adr _ rfl _ rfl rfl (op_assign (.base rfl)) ?_
  refine jg_nil ?_
  refine jn_keep [0] [] (.cons rfl .nil) .nil ?_
  refine jn_seq (j_seq ?_)
  refine j_region ?_
  refine jg_adr _ rfl _ rfl rfl (op_assign (.base rfl)) ?_
  refine jg_nil ?_
  refine jn_keep [0, 4] [] (.cons rfl (.cons rfl .nil)) .nil ?_
  refine jn_seq (j_seq (j_seq ?_))
  refine j_region ?_
  refine jg_adr _ rfl _ rfl rfl (op_assign (.base rfl)) ?_
  refine jg_nil ?_
  refine jn_keep [0, 4, 5] [] (.cons rfl (.cons rfl (.cons rfl .nil))) .nil ?_
  refine jn_seq (j_block ?_)
  refine j_loopp (ι := Nat × Int) (fun (k, t) => ⟨[(0, .tv (rSlice (rInt .i64)) l), (4, .raw (.int .i64 (t))), (5, .raw (.int .i64 ((k : Nat))))], []⟩) (fun (k, t) => k ≤ l.length ∧ (-1000000000000000 ≤ t ∧ t ≤ 1000000000000000) ∧ sumF t (l.drop k) = sumF 0 l) (fun (k, t) => l.length - k) (0, 0) (⟨Nat.zero_le _, by omega, rfl⟩) (fun a w hi => (Sub.inv ⟨(by repeat (first | exact SubS_nil | refine SubS_cons rfl (by first | rfl | (simp; done) | assumption) ?_)), (by repeat (first | exact SubH_nil | refine SubH_cons rfl (by first | rfl | (simp; done) | assumption) ?_))⟩ hi)) ?_
  rintro ⟨k, t⟩ ⟨p1, p2, p3⟩
  refine j_seq (j_seq ?_)
  refine j_region ?_
  refine jg_adr _ rfl _ rfl rfl (op_move (.base rfl)) ?_
  refine jg_adr _ rfl _ rfl rfl (op_move (.base rfl)) ?_
  refine jg_adr _ rfl _ rfl rfl (op_len Try.underlying29 (.base rfl)) ?_
  refine jg_adr _ rfl _ rfl rfl (op_lss (.base rfl) (.base rfl)) ?_
  refine jg_nil ?_
  refine jn_keep [0, 4, 5, 9] [] (.cons rfl (.cons rfl (.cons rfl (.cons rfl .nil)))) .nil ?_
  refine jn_seq ?_
  refine j_cond rfl (fun h3 => ?_) (fun h3 => ?_)
  · simp at h3
    have hd := List.drop_eq_getElem_cons h3
    have hd2 : l[k]?.getD 0 = l[k] := by simp [h3]
    refine j_skip (jn_seq (j_seq (j_block (j_seq (j_seq ?_)))))
    refine j_region ?_
    refine jg_adr _ rfl _ rfl rfl (op_move (.base rfl)) ?_
    refine jg_adr _ rfl _ rfl rfl (op_move (.base rfl)) ?_
    refine jg_adr _ rfl _ rfl rfl (op_index Try.underlying29 ty3 (.base rfl) (.base rfl) rfl (List.getElem?_eq_getElem (by first | omega | (simp; done) | (simp; omega) | (simp at hg; omega)))) ?_
    refine jg_adr _ rfl _ rfl rfl (op_load ty3 (.base rfl)) ?_
    refine jg_adr _ rfl _ rfl rfl (op_call (rbeyond_ok _ _ (by omega)) (.cons (.base rfl) (.cons (.base rfl) .nil)) rfl rfl) ?_
    refine jg_adr _ rfl _ rfl rfl (op_move (.base rfl)) ?_
    refine jg_gd _ _ _ _ _ _ rfl rfl rfl rfl rfl (fun hg => op_move (.base rfl)) ?_
    refine jg_gd _ _ _ _ _ _ rfl rfl rfl rfl rfl (fun hg => op_move (.base rfl)) ?_
    refine jg_gd _ _ _ _ _ _ rfl rfl rfl rfl rfl (fun hg => op_move (.base rfl)) ?_
    refine jg_gd _ _ _ _ _ _ rfl rfl rfl rfl rfl (fun hg => op_index Try.underlying29 ty3 (.gd rfl hg) (.gd rfl hg) rfl (getD_some (z := (0 : Int)) (by first | omega | (simp; done) | (simp; omega) | (simp at hg; omega) | (simp at hg; simp; omega)))) ?_
    refine jg_gd _ _ _ _ _ _ rfl rfl rfl rfl rfl (fun hg => op_load ty3 (.gd rfl hg)) ?_
    refine jg_gd _ _ _ _ _ _ rfl rfl rfl rfl rfl (fun hg => op_add (.gd rfl hg) (.gd rfl hg) (w64 (by have := byd_f (beq_iff_eq.1 hg); rw [hd2]; omega))) ?_
    refine jg_gd _ _ _ _ _ _ rfl rfl rfl rfl rfl (fun hg => op_call (rbeyond_ok _ _ (by omega)) (.cons (.gd rfl hg) (.cons (.base rfl) .nil)) rfl rfl) ?_
    refine jg_adr _ rfl _ rfl rfl (op_pick_or (.base rfl) (.base rfl) rfl (by intro h; first | (rw [h]; rfl) | (rw [hg, h]; rfl) | (rw [h, hg]; rfl) | simp_all)) ?_
    refine jg_nil ?_
    refine jn_keep [0, 4, 5, 25] [] (.cons rfl (.cons rfl (.cons rfl (.cons rfl .nil)))) .nil ?_
    refine jn_seq ?_
    refine j_cond rfl (fun h5 => ?_) (fun h5 => ?_)
    · rw [hd2] at h5
      refine j_seq ?_
      refine j_region ?_
      refine jg_adr _ rfl _ rfl rfl (op_assign (.base rfl)) ?_
      refine jg_adr _ rfl _ rfl rfl (op_assign (.base rfl)) ?_
      refine jg_nil ?_
      refine jn_keep [2, 3] [] (.cons rfl (.cons rfl .nil)) .nil ?_
      refine jn_seq (j_ret (jr_seq (jr_blk (jr_seq (jr_loop (jr_blk (jr_seq ?_)))))))
      exact jr_fin2 Try.results23 (res_tmp rfl) (res_tmp rfl) ⟨rfl, rfl⟩ (svI2_eq (by rw [← p3, hd]; exact (sumF_or h5).symm))
    · rw [hd2] at h5
      have k5 := (orF h5).1
      have k6 := (orF h5).2
      have k7 := byd_f k5
      refine j_skip (jn_seq ?_)
      refine j_region ?_
      refine jg_adr _ rfl _ rfl rfl (op_move (.base rfl)) ?_
      refine jg_adr _ rfl _ rfl rfl (op_move (.base rfl)) ?_
      refine jg_adr _ rfl _ rfl rfl (op_move (.base rfl)) ?_
      refine jg_adr _ rfl _ rfl rfl (op_index Try.underlying29 ty3 (.base rfl) (.base rfl) rfl (List.getElem?_eq_getElem (by first | omega | (simp; done) | (simp; omega) | (simp at hg; omega)))) ?_
      refine jg_adr _ rfl _ rfl rfl (op_load ty3 (.base rfl)) ?_
      refine jg_adr _ rfl _ rfl rfl (op_add (.base rfl) (.base rfl) (w64 (by omega))) ?_
      refine jg_adr _ rfl _ rfl rfl (op_assign (.base rfl)) ?_
      refine jg_nil ?_
      refine jn_keep [0, 4, 5] [] (.cons rfl (.cons rfl (.cons rfl .nil))) .nil ?_
      refine jn_blk (jn_seq ?_)
      refine j_region ?_
      refine jg_adr _ rfl _ rfl rfl (op_move (.base rfl)) ?_
      refine jg_adr _ rfl _ rfl rfl (op_add (.base rfl) (.base rfl) (w64 (by omega))) ?_
      refine jg_adr _ rfl _ rfl rfl (op_assign (.base rfl)) ?_
      refine jg_nil ?_
      refine jn_keep [0, 4, 5] [] (.cons rfl (.cons rfl (.cons rfl .nil))) .nil ?_
      exact jn_loop (fun a w hi => ⟨(k + 1, t + l[k]), (by first | omega | (simp; omega)), (⟨by omega, byd_f k6, by rw [← p3, hd, sumF, if_neg (by rw [k5]; simp), if_neg (by rw [k6]; simp)]⟩), (Sub.inv ⟨(by repeat (first | exact SubS_nil | refine SubS_cons rfl (by first | rfl | (simp; done) | assumption) ?_)), (by repeat (first | exact SubH_nil | refine SubH_cons rfl (by first | rfl | (simp; done) | assumption) ?_))⟩ hi)⟩)
  · simp at h3
    refine j_exit (je_seq (je_loop (je_blk (jn_seq (j_seq ?_)))))
    refine j_region ?_
    refine jg_adr _ rfl _ rfl rfl (op_move (.base rfl)) ?_
    refine jg_adr _ rfl _ rfl rfl (op_assign (.base rfl)) ?_
    refine jg_adr _ rfl _ rfl rfl (op_assign (.base rfl)) ?_
    refine jg_nil ?_
    refine jn_keep [2, 3] [] (.cons rfl (.cons rfl .nil)) .nil ?_
    refine jn_seq (j_ret ?_)
    exact jr_fin2 Try.results23 (res_tmp rfl) (res_tmp rfl) ⟨rfl, rfl⟩ (svI2_eq (by rw [← p3, List.drop_of_length_le (by omega)]; rfl))

end Go.Proofs.Ytdfdonfhaadnmaa
