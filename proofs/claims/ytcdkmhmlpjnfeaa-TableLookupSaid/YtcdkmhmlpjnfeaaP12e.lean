import Derived.Test.YtcdkmhmlpjnfeaaP12d
namespace Go.Proofs.Ytcdkmhmlpjnfeaa
open Go.Eng
set_option maxRecDepth 100000
set_option maxHeartbeats 4000000
set_option linter.unusedVariables false
set_option linter.unusedSimpArgs false


theorem mul_bigC {a x : Nat} (hx : 0 < x) (h : 1000000000000000 / x < a) : 1000000000000000 < a * x := (Nat.div_lt_iff_lt_mul hx).1 h
theorem mul_smallC {a x : Nat} (h : x = 0 ∨ a ≤ 1000000000000000 / x) : a * x ≤ 1000000000000000 := by
  rcases h with rfl | h
  · simp
  · exact Nat.le_trans (Nat.mul_le_mul_right _ h) (Nat.div_mul_le_self _ _)
theorem mag_less {n : Int} (h : n < 0) (h1 : -9223372036854775808 ≤ n) : IntKind.u64.wrap (-(n + 1)) = ((n.natAbs - 1 : Nat) : Int) := by rw [IntKind.wrap_u64]; omega
theorem natI' {n : Nat} (h : n ≤ 9223372036854775807) : -9223372036854775808 ≤ (n : Int) ∧ (n : Int) ≤ 9223372036854775807 := by omega

theorem rcontr_ok (p : Nat) (n : Int) (hl : 0 < p ∧ p ≤ 1000000000000000) (hn : -9223372036854775808 ≤ n ∧ n ≤ 9223372036854775807) : Ct Try.prog 52 [.raw (.int .i64 (p : Nat)), .raw (.int .i64 n)] (svIIB (contr (p : Int) n)) := by
  refine ct_intro Try.func52 rfl rfl Try.ntmps52 rfl rfl ?_
  intro w0 ok0
  refine j_seq ?_
  refine j_region ?_
  refine jg_adr _ rfl _ rfl rfl (op_assign (.base rfl)) ?_
  refine jg_adr _ rfl _ rfl rfl (op_assign (.base rfl)) ?_
  refine jg_adr _ rfl _ rfl rfl (op_assign (.base rfl)) ?_
  refine jg_nil ?_
  refine jn_keep [0, 1] [] (.cons rfl (.cons rfl .nil)) .nil ?_
  refine jn_seq (j_seq ?_)
  refine j_region ?_
  refine jg_adr _ rfl _ rfl rfl (op_move (.base rfl)) ?_
  refine jg_adr _ rfl _ rfl rfl (op_conv ⟨_, Try.underlying3⟩ Try.underlying78 (.base rfl) rfl) ?_
  refine jg_adr _ rfl _ rfl rfl (op_assign (.base rfl)) ?_
  refine jg_nil ?_
  refine jn_keep [0, 1, 7] [] (.cons rfl (.cons rfl (.cons rfl .nil))) .nil ?_
  refine jn_seq (j_seq (j_seq ?_))
  refine j_region ?_
  refine jg_adr _ rfl _ rfl rfl (op_move (.base rfl)) ?_
  refine jg_adr _ rfl _ rfl rfl (op_lss (.base rfl) (.base rfl)) ?_
  refine jg_nil ?_
  refine jn_keep [0, 1, 7, 15] [] (.cons rfl (.cons rfl (.cons rfl (.cons rfl .nil)))) .nil ?_
  refine jn_seq ?_
  refine j_cond rfl (fun h2 => ?_) (fun h2 => ?_)
  · have h2 := of_decide_eq_true h2
    refine j_region ?_
    refine jg_adr _ rfl _ rfl rfl (op_move (.base rfl)) ?_
    refine jg_adr _ rfl _ rfl rfl (op_add (.base rfl) (.base rfl) (w64 (by omega))) ?_
    refine jg_adr _ rfl _ rfl rfl (op_neg (.base rfl) (w64 (by omega))) ?_
    refine jg_adr _ rfl _ rfl rfl (op_conv ⟨_, Try.underlying3⟩ Try.underlying78 (.base rfl) (mag_less h2 hn.1)) ?_
    refine jg_adr _ rfl _ rfl rfl (op_add (.base rfl) (.base rfl) (toN (add_nat (m := 1) (by omega)) (show _ = n.natAbs by omega))) ?_
    refine jg_adr _ rfl _ rfl rfl (op_assign (.base rfl)) ?_
    refine jg_nil ?_
    refine jn_keep [0, 1, 7] [] (.cons rfl (.cons rfl (.cons rfl .nil))) .nil ?_
    refine jn_seq (j_seq ?_)
    refine j_region ?_
    refine jg_adr _ rfl _ rfl rfl (op_move (.base rfl)) ?_
    refine jg_adr _ rfl _ rfl rfl (op_quo (.base rfl) (.base rfl) (by omega) (quo_nat (m := 1000000) (by omega))) ?_
    refine jg_adr _ rfl _ rfl rfl (op_conv ⟨_, Try.underlying78⟩ Try.underlying3 (.base rfl) (w64 (by omega))) ?_
    refine jg_adr _ rfl _ rfl rfl (op_move (.base rfl)) ?_
    refine jg_adr _ rfl _ rfl rfl (op_rem_e (.base rfl) (.base rfl) (by omega) (rem_nat (m := 1000000))) ?_
    refine jg_adr _ rfl _ rfl rfl (op_conv ⟨_, Try.underlying78⟩ Try.underlying3 (.base rfl) (w64 (by omega))) ?_
    refine jg_adr _ rfl _ rfl rfl (op_assign (.base rfl)) ?_
    refine jg_adr _ rfl _ rfl rfl (op_assign (.base rfl)) ?_
    refine jg_nil ?_
    refine jn_keep [0, 1, 8, 9] [] (.cons rfl (.cons rfl (.cons rfl (.cons rfl .nil)))) .nil ?_
    refine jn_seq (j_seq (j_seq ?_))
    refine j_region ?_
    refine jg_adr _ rfl _ rfl rfl (op_move (.base rfl)) ?_
    refine jg_adr _ rfl _ rfl rfl (op_gtr (.base rfl) (.base rfl)) ?_
    refine jg_adr _ rfl _ rfl rfl (op_move (.base rfl)) ?_
    refine jg_gd _ _ _ _ _ _ rfl rfl rfl rfl rfl (fun hg => op_move (.base rfl)) ?_
    refine jg_gd _ _ _ _ _ _ rfl rfl rfl rfl rfl (fun hg => op_move (.base rfl)) ?_
    refine jg_gd _ _ _ _ _ _ rfl rfl rfl rfl rfl (fun hg => op_quo (.base rfl) (.gd rfl hg) (by have := of_decide_eq_true (beq_iff_eq.1 hg); omega) (quo_natI (n := 1000000000000000) (by omega))) ?_
    refine jg_gd _ _ _ _ _ _ rfl rfl rfl rfl rfl (fun hg => op_gtr (.gd rfl hg) (.gd rfl hg)) ?_
    refine jg_adr _ rfl _ rfl rfl (op_pick_and (.base rfl) (.base rfl) rfl (by intro h; first | (rw [h]; rfl) | (rw [hg, h]; rfl) | (rw [h, hg]; rfl) | simp_all)) ?_
    refine jg_nil ?_
    refine jn_keep [0, 1, 8, 9, 34] [] (.cons rfl (.cons rfl (.cons rfl (.cons rfl (.cons rfl .nil))))) .nil ?_
    refine jn_seq ?_
    refine j_cond rfl (fun h5 => ?_) (fun h5 => ?_)
    · have k5 : 0 < n.natAbs / 1000000 ∧ 1000000000000000 / (n.natAbs / 1000000) < p := by
        rw [Bool.and_eq_true, decide_eq_true_eq, decide_eq_true_eq] at h5
        exact ⟨Int.ofNat_lt.1 h5.1, Int.ofNat_lt.1 h5.2⟩
      have k6 := mul_bigC k5.1 k5.2
      have k7 : 1000000000000000 < p * n.natAbs / 1000000 := by rw [(rc_split (p := p) (m := n.natAbs)).1]; exact Nat.lt_of_lt_of_le k6 (Nat.le_trans (Nat.le_add_right _ _) (Nat.le_add_right _ _))
      refine j_seq ?_
      refine j_region ?_
      refine jg_adr _ rfl _ rfl rfl (op_assign (.base rfl)) ?_
      refine jg_adr _ rfl _ rfl rfl (op_assign (.base rfl)) ?_
      refine jg_adr _ rfl _ rfl rfl (op_assign (.base rfl)) ?_
      refine jg_nil ?_
      refine jn_keep [4, 5, 6] [] (.cons rfl (.cons rfl (.cons rfl .nil))) .nil ?_
      refine jn_seq (j_ret (jr_seq ?_))
      exact jr_fin3 Try.results52 (res_tmp rfl) (res_tmp rfl) (res_tmp rfl) ⟨rfl, rfl, rfl⟩ (svIIB_eq (by unfold contr; rw [Int.natAbs_natCast]; rw [if_pos k7]))
    · have k6 : p * (n.natAbs / 1000000) ≤ 1000000000000000 := mul_smallC (by
        rw [Bool.and_eq_false_iff, decide_eq_false_iff_not, decide_eq_false_iff_not] at h5
        rcases h5 with q | q
        · exact .inl (by omega)
        · exact .inr (Int.ofNat_le.1 (Int.not_lt.1 q)))
      have k7 : p % 1000000 * (n.natAbs % 1000000) ≤ 1000000 * 1000000 := Nat.mul_le_mul (Nat.le_of_lt (Nat.mod_lt _ (by decide))) (Nat.le_of_lt (Nat.mod_lt _ (by decide)))
      have k8 : p / 1000000 * (n.natAbs % 1000000) ≤ 1000000000 * 1000000 := Nat.mul_le_mul (by omega) (Nat.le_of_lt (Nat.mod_lt _ (by decide)))
      have k9 := Nat.div_le_self (p % 1000000 * (n.natAbs % 1000000)) 1000000
      have ks := rc_split (p := p) (m := n.natAbs)
      refine j_skip (jn_seq (j_seq ?_))
      refine j_region ?_
      refine jg_adr _ rfl _ rfl rfl (op_move (.base rfl)) ?_
      refine jg_adr _ rfl _ rfl rfl (op_rem_e (.base rfl) (.base rfl) (by omega) (rem_nat (m := 1000000))) ?_
      refine jg_adr _ rfl _ rfl rfl (op_move (.base rfl)) ?_
      refine jg_adr _ rfl _ rfl rfl (op_mul (.base rfl) (.base rfl) (mul_natI (by omega))) ?_
      refine jg_adr _ rfl _ rfl rfl (op_assign (.base rfl)) ?_
      refine jg_nil ?_
      refine jn_keep [0, 1, 8, 9, 10] [] (.cons rfl (.cons rfl (.cons rfl (.cons rfl (.cons rfl .nil))))) .nil ?_
      refine jn_seq (j_seq ?_)
      refine j_region ?_
      refine jg_adr _ rfl _ rfl rfl (op_move (.base rfl)) ?_
      refine jg_adr _ rfl _ rfl rfl (op_move (.base rfl)) ?_
      refine jg_adr _ rfl _ rfl rfl (op_mul (.base rfl) (.base rfl) (mul_natI (by omega))) ?_
      refine jg_adr _ rfl _ rfl rfl (op_move (.base rfl)) ?_
      refine jg_adr _ rfl _ rfl rfl (op_quo (.base rfl) (.base rfl) (by omega) (quo_natI (m := 1000000) (by omega))) ?_
      refine jg_adr _ rfl _ rfl rfl (op_move (.base rfl)) ?_
      refine jg_adr _ rfl _ rfl rfl (op_mul (.base rfl) (.base rfl) (mul_natI (by omega))) ?_
      refine jg_adr _ rfl _ rfl rfl (op_add (.base rfl) (.base rfl) (add_natI (by omega))) ?_
      refine jg_adr _ rfl _ rfl rfl (op_move (.base rfl)) ?_
      refine jg_adr _ rfl _ rfl rfl (op_quo (.base rfl) (.base rfl) (by omega) (quo_natI (m := 1000000) (by omega))) ?_
      refine jg_adr _ rfl _ rfl rfl (op_add (.base rfl) (.base rfl) (toN (add_natI (by omega)) ks.1.symm)) ?_
      refine jg_adr _ rfl _ rfl rfl (op_assign (.base rfl)) ?_
      refine jg_nil ?_
      refine jn_keep [1, 10, 11] [] (.cons rfl (.cons rfl (.cons rfl .nil))) .nil ?_
      refine jn_seq (j_seq (j_seq ?_))
      refine j_region ?_
      refine jg_adr _ rfl _ rfl rfl (op_move (.base rfl)) ?_
      refine jg_adr _ rfl _ rfl rfl (op_gtr (.base rfl) (.base rfl)) ?_
      refine jg_nil ?_
      refine jn_keep [1, 10, 11, 51] [] (.cons rfl (.cons rfl (.cons rfl (.cons rfl .nil)))) .nil ?_
      refine jn_seq ?_
      refine j_cond rfl (fun h9 => ?_) (fun h9 => ?_)
      · have k10 : 1000000000000000 < p * n.natAbs / 1000000 := by have := of_decide_eq_true h9; exact Int.ofNat_lt.1 this
        refine j_seq ?_
        refine j_region ?_
        refine jg_adr _ rfl _ rfl rfl (op_assign (.base rfl)) ?_
        refine jg_adr _ rfl _ rfl rfl (op_assign (.base rfl)) ?_
        refine jg_adr _ rfl _ rfl rfl (op_assign (.base rfl)) ?_
        refine jg_nil ?_
        refine jn_keep [4, 5, 6] [] (.cons rfl (.cons rfl (.cons rfl .nil))) .nil ?_
        refine jn_seq (j_ret (jr_seq ?_))
        exact jr_fin3 Try.results52 (res_tmp rfl) (res_tmp rfl) (res_tmp rfl) ⟨rfl, rfl, rfl⟩ (svIIB_eq (by unfold contr; rw [Int.natAbs_natCast]; rw [if_pos k10]))
      · have k10 : p * n.natAbs / 1000000 ≤ 1000000000000000 := by have := of_decide_eq_false h9; exact Int.ofNat_le.1 (Int.not_lt.1 this)
        have k11 : p * n.natAbs % 1000000 < 1000000 := Nat.mod_lt _ (by decide)
        refine j_skip (jn_seq (j_seq (j_seq ?_)))
        refine j_region ?_
        refine jg_adr _ rfl _ rfl rfl (op_move (.base rfl)) ?_
        refine jg_adr _ rfl _ rfl rfl (op_lss (.base rfl) (.base rfl)) ?_
        refine jg_nil ?_
        refine jn_keep [10, 11, 53] [] (.cons rfl (.cons rfl (.cons rfl .nil))) .nil ?_
        refine jn_seq ?_
        refine j_cond rfl (fun h11 => ?_) (fun h11 => ?_)
        · first | (exact absurd (of_decide_eq_true h11) h2) | skip
          all_goals
            refine j_seq ?_
            refine j_region ?_
            refine jg_adr _ rfl _ rfl rfl (op_move (.base rfl)) ?_
            refine jg_adr _ rfl _ rfl rfl (op_neg (.base rfl) (w64 (by omega))) ?_
            refine jg_adr _ rfl _ rfl rfl (op_move (.base rfl)) ?_
            refine jg_adr _ rfl _ rfl rfl (op_rem_e (.base rfl) (.base rfl) (by omega) (toN (rem_nat (m := 1000000)) ks.2.symm)) ?_
            refine jg_adr _ rfl _ rfl rfl (op_neg (.base rfl) (w64 (by omega))) ?_
            refine jg_adr _ rfl _ rfl rfl (op_assign (.base rfl)) ?_
            refine jg_adr _ rfl _ rfl rfl (op_assign (.base rfl)) ?_
            refine jg_adr _ rfl _ rfl rfl (op_assign (.base rfl)) ?_
            refine jg_nil ?_
            refine jn_keep [4, 5, 6] [] (.cons rfl (.cons rfl (.cons rfl .nil))) .nil ?_
            refine jn_seq (j_ret (jr_seq ?_))
            exact jr_fin3 Try.results52 (res_tmp rfl) (res_tmp rfl) (res_tmp rfl) ⟨rfl, rfl, rfl⟩ (svIIB_eq (by unfold contr; rw [Int.natAbs_natCast]; rw [if_neg (by omega), if_pos h2]))
        · first | (exact absurd h2 (of_decide_eq_false h11)) | skip
          all_goals
            refine j_skip (jn_seq (j_seq ?_))
            refine j_region ?_
            refine jg_adr _ rfl _ rfl rfl (op_move (.base rfl)) ?_
            refine jg_adr _ rfl _ rfl rfl (op_move (.base rfl)) ?_
            refine jg_adr _ rfl _ rfl rfl (op_rem_e (.base rfl) (.base rfl) (by omega) (toN (rem_nat (m := 1000000)) ks.2.symm)) ?_
            refine jg_adr _ rfl _ rfl rfl (op_assign (.base rfl)) ?_
            refine jg_adr _ rfl _ rfl rfl (op_assign (.base rfl)) ?_
            refine jg_adr _ rfl _ rfl rfl (op_assign (.base rfl)) ?_
            refine jg_nil ?_
            refine jn_keep [4, 5, 6] [] (.cons rfl (.cons rfl (.cons rfl .nil))) .nil ?_
            refine jn_seq (j_ret ?_)
            exact jr_fin3 Try.results52 (res_tmp rfl) (res_tmp rfl) (res_tmp rfl) ⟨rfl, rfl, rfl⟩ (svIIB_eq (by unfold contr; rw [Int.natAbs_natCast]; rw [if_neg (by omega), if_neg h2]))
  · have h2 := of_decide_eq_false h2
    rw [mag_pos h2 hn.2]
    refine j_skip (jn_seq (j_seq ?_))
    refine j_region ?_
    refine jg_adr _ rfl _ rfl rfl (op_move (.base rfl)) ?_
    refine jg_adr _ rfl _ rfl rfl (op_quo (.base rfl) (.base rfl) (by omega) (quo_nat (m := 1000000) (by omega))) ?_
    refine jg_adr _ rfl _ rfl rfl (op_conv ⟨_, Try.underlying78⟩ Try.underlying3 (.base rfl) (w64 (by omega))) ?_
    refine jg_adr _ rfl _ rfl rfl (op_move (.base rfl)) ?_
    refine jg_adr _ rfl _ rfl rfl (op_rem_e (.base rfl) (.base rfl) (by omega) (rem_nat (m := 1000000))) ?_
    refine jg_adr _ rfl _ rfl rfl (op_conv ⟨_, Try.underlying78⟩ Try.underlying3 (.base rfl) (w64 (by omega))) ?_
    refine jg_adr _ rfl _ rfl rfl (op_assign (.base rfl)) ?_
    refine jg_adr _ rfl _ rfl rfl (op_assign (.base rfl)) ?_
    refine jg_nil ?_
    refine jn_keep [0, 1, 8, 9] [] (.cons rfl (.cons rfl (.cons rfl (.cons rfl .nil)))) .nil ?_
    refine jn_seq (j_seq (j_seq ?_))
    refine j_region ?_
    refine jg_adr _ rfl _ rfl rfl (op_move (.base rfl)) ?_
    refine jg_adr _ rfl _ rfl rfl (op_gtr (.base rfl) (.base rfl)) ?_
    refine jg_adr _ rfl _ rfl rfl (op_move (.base rfl)) ?_
    refine jg_gd _ _ _ _ _ _ rfl rfl rfl rfl rfl (fun hg => op_move (.base rfl)) ?_
    refine jg_gd _ _ _ _ _ _ rfl rfl rfl rfl rfl (fun hg => op_move (.base rfl)) ?_
    refine jg_gd _ _ _ _ _ _ rfl rfl rfl rfl rfl (fun hg => op_quo (.base rfl) (.gd rfl hg) (by have := of_decide_eq_true (beq_iff_eq.1 hg); omega) (quo_natI (n := 1000000000000000) (by omega))) ?_
    refine jg_gd _ _ _ _ _ _ rfl rfl rfl rfl rfl (fun hg => op_gtr (.gd rfl hg) (.gd rfl hg)) ?_
    refine jg_adr _ rfl _ rfl rfl (op_pick_and (.base rfl) (.base rfl) rfl (by intro h; first | (rw [h]; rfl) | (rw [hg, h]; rfl) | (rw [h, hg]; rfl) | simp_all)) ?_
    refine jg_nil ?_
    refine jn_keep [0, 1, 8, 9, 34] [] (.cons rfl (.cons rfl (.cons rfl (.cons rfl (.cons rfl .nil))))) .nil ?_
    refine jn_seq ?_
    refine j_cond rfl (fun h5 => ?_) (fun h5 => ?_)
    · have k5 : 0 < n.natAbs / 1000000 ∧ 1000000000000000 / (n.natAbs / 1000000) < p := by
        rw [Bool.and_eq_true, decide_eq_true_eq, decide_eq_true_eq] at h5
        exact ⟨Int.ofNat_lt.1 h5.1, Int.ofNat_lt.1 h5.2⟩
      have k6 := mul_bigC k5.1 k5.2
      have k7 : 1000000000000000 < p * n.natAbs / 1000000 := by rw [(rc_split (p := p) (m := n.natAbs)).1]; exact Nat.lt_of_lt_of_le k6 (Nat.le_trans (Nat.le_add_right _ _) (Nat.le_add_right _ _))
      refine j_seq ?_
      refine j_region ?_
      refine jg_adr _ rfl _ rfl rfl (op_assign (.base rfl)) ?_
      refine jg_adr _ rfl _ rfl rfl (op_assign (.base rfl)) ?_
      refine jg_adr _ rfl _ rfl rfl (op_assign (.base rfl)) ?_
      refine jg_nil ?_
      refine jn_keep [4, 5, 6] [] (.cons rfl (.cons rfl (.cons rfl .nil))) .nil ?_
      refine jn_seq (j_ret (jr_seq ?_))
      exact jr_fin3 Try.results52 (res_tmp rfl) (res_tmp rfl) (res_tmp rfl) ⟨rfl, rfl, rfl⟩ (svIIB_eq (by unfold contr; rw [Int.natAbs_natCast]; rw [if_pos k7]))
    · have k6 : p * (n.natAbs / 1000000) ≤ 1000000000000000 := mul_smallC (by
        rw [Bool.and_eq_false_iff, decide_eq_false_iff_not, decide_eq_false_iff_not] at h5
        rcases h5 with q | q
        · exact .inl (by omega)
        · exact .inr (Int.ofNat_le.1 (Int.not_lt.1 q)))
      have k7 : p % 1000000 * (n.natAbs % 1000000) ≤ 1000000 * 1000000 := Nat.mul_le_mul (Nat.le_of_lt (Nat.mod_lt _ (by decide))) (Nat.le_of_lt (Nat.mod_lt _ (by decide)))
      have k8 : p / 1000000 * (n.natAbs % 1000000) ≤ 1000000000 * 1000000 := Nat.mul_le_mul (by omega) (Nat.le_of_lt (Nat.mod_lt _ (by decide)))
      have k9 := Nat.div_le_self (p % 1000000 * (n.natAbs % 1000000)) 1000000
      have ks := rc_split (p := p) (m := n.natAbs)
      refine j_skip (jn_seq (j_seq ?_))
      refine j_region ?_
      refine jg_adr _ rfl _ rfl rfl (op_move (.base rfl)) ?_
      refine jg_adr _ rfl _ rfl rfl (op_rem_e (.base rfl) (.base rfl) (by omega) (rem_nat (m := 1000000))) ?_
      refine jg_adr _ rfl _ rfl rfl (op_move (.base rfl)) ?_
      refine jg_adr _ rfl _ rfl rfl (op_mul (.base rfl) (.base rfl) (mul_natI (by omega))) ?_
      refine jg_adr _ rfl _ rfl rfl (op_assign (.base rfl)) ?_
      refine jg_nil ?_
      refine jn_keep [0, 1, 8, 9, 10] [] (.cons rfl (.cons rfl (.cons rfl (.cons rfl (.cons rfl .nil))))) .nil ?_
      refine jn_seq (j_seq ?_)
      refine j_region ?_
      refine jg_adr _ rfl _ rfl rfl (op_move (.base rfl)) ?_
      refine jg_adr _ rfl _ rfl rfl (op_move (.base rfl)) ?_
      refine jg_adr _ rfl _ rfl rfl (op_mul (.base rfl) (.base rfl) (mul_natI (by omega))) ?_
      refine jg_adr _ rfl _ rfl rfl (op_move (.base rfl)) ?_
      refine jg_adr _ rfl _ rfl rfl (op_quo (.base rfl) (.base rfl) (by omega) (quo_natI (m := 1000000) (by omega))) ?_
      refine jg_adr _ rfl _ rfl rfl (op_move (.base rfl)) ?_
      refine jg_adr _ rfl _ rfl rfl (op_mul (.base rfl) (.base rfl) (mul_natI (by omega))) ?_
      refine jg_adr _ rfl _ rfl rfl (op_add (.base rfl) (.base rfl) (add_natI (by omega))) ?_
      refine jg_adr _ rfl _ rfl rfl (op_move (.base rfl)) ?_
      refine jg_adr _ rfl _ rfl rfl (op_quo (.base rfl) (.base rfl) (by omega) (quo_natI (m := 1000000) (by omega))) ?_
      refine jg_adr _ rfl _ rfl rfl (op_add (.base rfl) (.base rfl) (toN (add_natI (by omega)) ks.1.symm)) ?_
      refine jg_adr _ rfl _ rfl rfl (op_assign (.base rfl)) ?_
      refine jg_nil ?_
      refine jn_keep [1, 10, 11] [] (.cons rfl (.cons rfl (.cons rfl .nil))) .nil ?_
      refine jn_seq (j_seq (j_seq ?_))
      refine j_region ?_
      refine jg_adr _ rfl _ rfl rfl (op_move (.base rfl)) ?_
      refine jg_adr _ rfl _ rfl rfl (op_gtr (.base rfl) (.base rfl)) ?_
      refine jg_nil ?_
      refine jn_keep [1, 10, 11, 51] [] (.cons rfl (.cons rfl (.cons rfl (.cons rfl .nil)))) .nil ?_
      refine jn_seq ?_
      refine j_cond rfl (fun h9 => ?_) (fun h9 => ?_)
      · have k10 : 1000000000000000 < p * n.natAbs / 1000000 := by have := of_decide_eq_true h9; exact Int.ofNat_lt.1 this
        refine j_seq ?_
        refine j_region ?_
        refine jg_adr _ rfl _ rfl rfl (op_assign (.base rfl)) ?_
        refine jg_adr _ rfl _ rfl rfl (op_assign (.base rfl)) ?_
        refine jg_adr _ rfl _ rfl rfl (op_assign (.base rfl)) ?_
        refine jg_nil ?_
        refine jn_keep [4, 5, 6] [] (.cons rfl (.cons rfl (.cons rfl .nil))) .nil ?_
        refine jn_seq (j_ret (jr_seq ?_))
        exact jr_fin3 Try.results52 (res_tmp rfl) (res_tmp rfl) (res_tmp rfl) ⟨rfl, rfl, rfl⟩ (svIIB_eq (by unfold contr; rw [Int.natAbs_natCast]; rw [if_pos k10]))
      · have k10 : p * n.natAbs / 1000000 ≤ 1000000000000000 := by have := of_decide_eq_false h9; exact Int.ofNat_le.1 (Int.not_lt.1 this)
        have k11 : p * n.natAbs % 1000000 < 1000000 := Nat.mod_lt _ (by decide)
        refine j_skip (jn_seq (j_seq (j_seq ?_)))
        refine j_region ?_
        refine jg_adr _ rfl _ rfl rfl (op_move (.base rfl)) ?_
        refine jg_adr _ rfl _ rfl rfl (op_lss (.base rfl) (.base rfl)) ?_
        refine jg_nil ?_
        refine jn_keep [10, 11, 53] [] (.cons rfl (.cons rfl (.cons rfl .nil))) .nil ?_
        refine jn_seq ?_
        refine j_cond rfl (fun h11 => ?_) (fun h11 => ?_)
        · first | (exact absurd (of_decide_eq_true h11) h2) | skip
          all_goals
            refine j_seq ?_
            refine j_region ?_
            refine jg_adr _ rfl _ rfl rfl (op_move (.base rfl)) ?_
            refine jg_adr _ rfl _ rfl rfl (op_neg (.base rfl) (w64 (by omega))) ?_
            refine jg_adr _ rfl _ rfl rfl (op_move (.base rfl)) ?_
            refine jg_adr _ rfl _ rfl rfl (op_rem_e (.base rfl) (.base rfl) (by omega) (toN (rem_nat (m := 1000000)) ks.2.symm)) ?_
            refine jg_adr _ rfl _ rfl rfl (op_neg (.base rfl) (w64 (by omega))) ?_
            refine jg_adr _ rfl _ rfl rfl (op_assign (.base rfl)) ?_
            refine jg_adr _ rfl _ rfl rfl (op_assign (.base rfl)) ?_
            refine jg_adr _ rfl _ rfl rfl (op_assign (.base rfl)) ?_
            refine jg_nil ?_
            refine jn_keep [4, 5, 6] [] (.cons rfl (.cons rfl (.cons rfl .nil))) .nil ?_
            refine jn_seq (j_ret (jr_seq ?_))
            exact jr_fin3 Try.results52 (res_tmp rfl) (res_tmp rfl) (res_tmp rfl) ⟨rfl, rfl, rfl⟩ (svIIB_eq (by unfold contr; rw [Int.natAbs_natCast]; rw [if_neg (by omega), if_pos h2]))
        · first | (exact absurd h2 (of_decide_eq_false h11)) | skip
          all_goals
            refine j_skip (jn_seq (j_seq ?_))
            refine j_region ?_
            refine jg_adr _ rfl _ rfl rfl (op_move (.base rfl)) ?_
            refine jg_adr _ rfl _ rfl rfl (op_move (.base rfl)) ?_
            refine jg_adr _ rfl _ rfl rfl (op_rem_e (.base rfl) (.base rfl) (by omega) (toN (rem_nat (m := 1000000)) ks.2.symm)) ?_
            refine jg_adr _ rfl _ rfl rfl (op_assign (.base rfl)) ?_
            refine jg_adr _ rfl _ rfl rfl (op_assign (.base rfl)) ?_
            refine jg_adr _ rfl _ rfl rfl (op_assign (.base rfl)) ?_
            refine jg_nil ?_
            refine jn_keep [4, 5, 6] [] (.cons rfl (.cons rfl (.cons rfl .nil))) .nil ?_
            refine jn_seq (j_ret ?_)
            exact jr_fin3 Try.results52 (res_tmp rfl) (res_tmp rfl) (res_tmp rfl) ⟨rfl, rfl, rfl⟩ (svIIB_eq (by unfold contr; rw [Int.natAbs_natCast]; rw [if_neg (by omega), if_neg h2]))

end Go.Proofs.Ytcdkmhmlpjnfeaa
