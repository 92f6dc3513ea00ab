import Derived.Test.YtcdkmhmlpjnfeaaP12c
import Derived.Test.YtcdkmhmlpjnfeaaP02c
namespace Go.Proofs.Ytcdkmhmlpjnfeaa
open Go.Eng
set_option maxRecDepth 100000
set_option maxHeartbeats 4000000
set_option linter.unusedVariables false
set_option linter.unusedSimpArgs false


/-- what a row adds: whole cents and millionths -/
def contr (len n : Int) : Int × Int × Bool :=
  if 1000000000000000 < len.natAbs * n.natAbs / 1000000 then (0, 0, false) else if n < 0 then (-((len.natAbs * n.natAbs / 1000000 : Nat) : Int), -((len.natAbs * n.natAbs % 1000000 : Nat) : Int), true)
  else (((len.natAbs * n.natAbs / 1000000 : Nat) : Int), ((len.natAbs * n.natAbs % 1000000 : Nat) : Int), true)
theorem lt64 {n : Int} (h : -9223372036854775808 ≤ n ∧ n ≤ 9223372036854775807) : n.natAbs < 18446744073709551616 := by omega

theorem contr_ok (len n : Int) (hl : 0 < len ∧ len ≤ 1000000000000000) (hn : -9223372036854775808 ≤ n ∧ n ≤ 9223372036854775807) : Ct Try.prog 48 [.raw (.int .i64 len), .raw (.int .i64 n)] (svIIB (contr len n)) := by
  refine ct_intro Try.func48 rfl rfl Try.ntmps48 rfl rfl ?_
  intro w0 ok0
  refine j_seq ?_
  refine j_region ?_
  refine jg_adr _ rfl _ rfl rfl (op_assign (.base rfl)) ?_
  refine jg_adr _ rfl _ rfl rfl (op_assign (.base rfl)) ?_
  refine jg_adr _ rfl _ rfl rfl (op_assign (.base rfl)) ?_
  refine jg_nil ?_
  refine jn_keep [0, 1] [] (.cons rfl (.cons rfl .nil)) .nil ?_
  refine jn_seq (j_seq ?_)
  refine j_region ?_
  refine jg_adr _ rfl _ rfl rfl (op_move (.base rfl)) ?_
  refine jg_adr _ rfl _ rfl rfl (op_conv ⟨_, Try.underlying3⟩ Try.underlying78 (.base rfl) rfl) ?_
  refine jg_adr _ rfl _ rfl rfl (op_assign (.base rfl)) ?_
  refine jg_nil ?_
  refine jn_keep [0, 1, 7] [] (.cons rfl (.cons rfl (.cons rfl .nil))) .nil ?_
  refine jn_seq (j_seq (j_seq ?_))
  refine j_region ?_
  refine jg_adr _ rfl _ rfl rfl (op_move (.base rfl)) ?_
  refine jg_adr _ rfl _ rfl rfl (op_lss (.base rfl) (.base rfl)) ?_
  refine jg_nil ?_
  refine jn_keep [0, 1, 7, 15] [] (.cons rfl (.cons rfl (.cons rfl (.cons rfl .nil)))) .nil ?_
  refine jn_seq ?_
  refine j_cond rfl (fun h2 => ?_) (fun h2 => ?_)
  · have h2 := of_decide_eq_true h2
    refine j_region ?_
    refine jg_adr _ rfl _ rfl rfl (op_move (.base rfl)) ?_
    refine jg_adr _ rfl _ rfl rfl (op_neg (.base rfl) (mag_neg h2 hn.1)) ?_
    refine jg_adr _ rfl _ rfl rfl (op_assign (.base rfl)) ?_
    refine jg_nil ?_
    refine jn_keep [0, 1, 7] [] (.cons rfl (.cons rfl (.cons rfl .nil))) .nil ?_
    refine jn_seq (j_seq ?_)
    refine j_region ?_
    refine jg_adr _ rfl _ rfl rfl (op_move (.base rfl)) ?_
    refine jg_adr _ rfl _ rfl rfl (op_conv ⟨_, Try.underlying3⟩ Try.underlying78 (.base rfl) (mag_pos (n := len) (by omega) (by omega))) ?_
    refine jg_adr _ rfl _ rfl rfl (op_move (.base rfl)) ?_
    refine jg_adr _ rfl _ rfl rfl (op_call (mul64_ok (lt64 (by omega)) (lt64 hn)) (.cons (.base rfl) (.cons (.base rfl) .nil)) rfl rfl) ?_
    refine jg_adr _ rfl _ rfl rfl (op_move (.base rfl)) ?_
    refine jg_adr _ rfl _ rfl rfl (op_ext20 (.base rfl)) ?_
    refine jg_adr _ rfl _ rfl rfl (op_ext21 (.base rfl)) ?_
    refine jg_adr _ rfl _ rfl rfl (op_assign (.base rfl)) ?_
    refine jg_adr _ rfl _ rfl rfl (op_assign (.base rfl)) ?_
    refine jg_nil ?_
    refine jn_keep [1, 8, 9] [] (.cons rfl (.cons rfl (.cons rfl .nil))) .nil ?_
    refine jn_seq (j_seq (j_seq ?_))
    refine j_region ?_
    refine jg_adr _ rfl _ rfl rfl (op_move (.base rfl)) ?_
    refine jg_adr _ rfl _ rfl rfl (op_geq (.base rfl) (.base rfl)) ?_
    refine jg_nil ?_
    refine jn_keep [1, 8, 9, 26] [] (.cons rfl (.cons rfl (.cons rfl (.cons rfl .nil)))) .nil ?_
    refine jn_seq ?_
    refine j_cond rfl (fun h5 => ?_) (fun h5 => ?_)
    · have k5 : 1000000 ≤ (len.natAbs * n.natAbs) / 18446744073709551616 := by have := of_decide_eq_true h5; omega
      have k6 := md_big (by decide) k5
      refine j_seq ?_
      refine j_region ?_
      refine jg_adr _ rfl _ rfl rfl (op_assign (.base rfl)) ?_
      refine jg_adr _ rfl _ rfl rfl (op_assign (.base rfl)) ?_
      refine jg_adr _ rfl _ rfl rfl (op_assign (.base rfl)) ?_
      refine jg_nil ?_
      refine jn_keep [4, 5, 6] [] (.cons rfl (.cons rfl (.cons rfl .nil))) .nil ?_
      refine jn_seq (j_ret (jr_seq ?_))
      exact jr_fin3 Try.results48 (res_tmp rfl) (res_tmp rfl) (res_tmp rfl) ⟨rfl, rfl, rfl⟩ (svIIB_eq (by unfold contr; rw [if_pos k6]))
    · have k5 : (len.natAbs * n.natAbs) / 18446744073709551616 < 1000000 := by have := of_decide_eq_false h5; omega
      refine j_skip (jn_seq (j_seq ?_))
      refine j_region ?_
      refine jg_adr _ rfl _ rfl rfl (op_move (.base rfl)) ?_
      refine jg_adr _ rfl _ rfl rfl (op_move (.base rfl)) ?_
      refine jg_adr _ rfl _ rfl rfl (op_call (div64_ok (y := 1000000) k5 (by decide) (Nat.mod_lt _ (by decide))) (.cons (.base rfl) (.cons (.base rfl) (.cons (.base rfl) .nil))) rfl rfl) ?_
      refine jg_adr _ rfl _ rfl rfl (op_move (.base rfl)) ?_
      refine jg_adr _ rfl _ rfl rfl (op_ext20 (.base rfl)) ?_
      refine jg_adr _ rfl _ rfl rfl (op_ext21 (.base rfl)) ?_
      refine jg_adr _ rfl _ rfl rfl (op_assign (.base rfl)) ?_
      refine jg_adr _ rfl _ rfl rfl (op_assign (.base rfl)) ?_
      refine jg_nil ?_
      rw [Nat.div_add_mod' _ _]
      refine jn_keep [1, 10, 11] [] (.cons rfl (.cons rfl (.cons rfl .nil))) .nil ?_
      refine jn_seq (j_seq (j_seq ?_))
      refine j_region ?_
      refine jg_adr _ rfl _ rfl rfl (op_move (.base rfl)) ?_
      refine jg_adr _ rfl _ rfl rfl (op_gtr (.base rfl) (.base rfl)) ?_
      refine jg_nil ?_
      refine jn_keep [1, 10, 11, 34] [] (.cons rfl (.cons rfl (.cons rfl (.cons rfl .nil)))) .nil ?_
      refine jn_seq ?_
      refine j_cond rfl (fun h8 => ?_) (fun h8 => ?_)
      · have k8 : 1000000000000000 < (len.natAbs * n.natAbs) / 1000000 := by have := of_decide_eq_true h8; omega
        refine j_seq ?_
        refine j_region ?_
        refine jg_adr _ rfl _ rfl rfl (op_assign (.base rfl)) ?_
        refine jg_adr _ rfl _ rfl rfl (op_assign (.base rfl)) ?_
        refine jg_adr _ rfl _ rfl rfl (op_assign (.base rfl)) ?_
        refine jg_nil ?_
        refine jn_keep [4, 5, 6] [] (.cons rfl (.cons rfl (.cons rfl .nil))) .nil ?_
        refine jn_seq (j_ret (jr_seq ?_))
        exact jr_fin3 Try.results48 (res_tmp rfl) (res_tmp rfl) (res_tmp rfl) ⟨rfl, rfl, rfl⟩ (svIIB_eq (by unfold contr; rw [if_pos k8]))
      · have k8 : (len.natAbs * n.natAbs) / 1000000 ≤ 1000000000000000 := by have := of_decide_eq_false h8; omega
        have k9 : (len.natAbs * n.natAbs) % 1000000 < 1000000 := Nat.mod_lt _ (by decide)
        refine j_skip (jn_seq (j_seq (j_seq ?_)))
        refine j_region ?_
        refine jg_adr _ rfl _ rfl rfl (op_move (.base rfl)) ?_
        refine jg_adr _ rfl _ rfl rfl (op_lss (.base rfl) (.base rfl)) ?_
        refine jg_nil ?_
        refine jn_keep [10, 11, 36] [] (.cons rfl (.cons rfl (.cons rfl .nil))) .nil ?_
        refine jn_seq ?_
        refine j_cond rfl (fun h10 => ?_) (fun h10 => ?_)
        · first | (exact absurd (of_decide_eq_true h10) h2) | skip
          all_goals
            refine j_seq ?_
            refine j_region ?_
            refine jg_adr _ rfl _ rfl rfl (op_move (.base rfl)) ?_
            refine jg_adr _ rfl _ rfl rfl (op_conv ⟨_, Try.underlying78⟩ Try.underlying3 (.base rfl) (w64 (by omega))) ?_
            refine jg_adr _ rfl _ rfl rfl (op_neg (.base rfl) (w64 (by omega))) ?_
            refine jg_adr _ rfl _ rfl rfl (op_move (.base rfl)) ?_
            refine jg_adr _ rfl _ rfl rfl (op_conv ⟨_, Try.underlying78⟩ Try.underlying3 (.base rfl) (w64 (by omega))) ?_
            refine jg_adr _ rfl _ rfl rfl (op_neg (.base rfl) (w64 (by omega))) ?_
            refine jg_adr _ rfl _ rfl rfl (op_assign (.base rfl)) ?_
            refine jg_adr _ rfl _ rfl rfl (op_assign (.base rfl)) ?_
            refine jg_adr _ rfl _ rfl rfl (op_assign (.base rfl)) ?_
            refine jg_nil ?_
            refine jn_keep [4, 5, 6] [] (.cons rfl (.cons rfl (.cons rfl .nil))) .nil ?_
            refine jn_seq (j_ret (jr_seq ?_))
            exact jr_fin3 Try.results48 (res_tmp rfl) (res_tmp rfl) (res_tmp rfl) ⟨rfl, rfl, rfl⟩ (svIIB_eq (by unfold contr; rw [if_neg (by omega), if_pos h2]))
        · first | (exact absurd h2 (of_decide_eq_false h10)) | skip
          all_goals
            refine j_skip (jn_seq (j_seq ?_))
            refine j_region ?_
            refine jg_adr _ rfl _ rfl rfl (op_move (.base rfl)) ?_
            refine jg_adr _ rfl _ rfl rfl (op_conv ⟨_, Try.underlying78⟩ Try.underlying3 (.base rfl) (w64 (by omega))) ?_
            refine jg_adr _ rfl _ rfl rfl (op_move (.base rfl)) ?_
            refine jg_adr _ rfl _ rfl rfl (op_conv ⟨_, Try.underlying78⟩ Try.underlying3 (.base rfl) (w64 (by omega))) ?_
            refine jg_adr _ rfl _ rfl rfl (op_assign (.base rfl)) ?_
            refine jg_adr _ rfl _ rfl rfl (op_assign (.base rfl)) ?_
            refine jg_adr _ rfl _ rfl rfl (op_assign (.base rfl)) ?_
            refine jg_nil ?_
            refine jn_keep [4, 5, 6] [] (.cons rfl (.cons rfl (.cons rfl .nil))) .nil ?_
            refine jn_seq (j_ret ?_)
            exact jr_fin3 Try.results48 (res_tmp rfl) (res_tmp rfl) (res_tmp rfl) ⟨rfl, rfl, rfl⟩ (svIIB_eq (by unfold contr; rw [if_neg (by omega), if_neg h2]))
  · have h2 := of_decide_eq_false h2
    rw [mag_pos h2 hn.2]
    refine j_skip (jn_seq (j_seq ?_))
    refine j_region ?_
    refine jg_adr _ rfl _ rfl rfl (op_move (.base rfl)) ?_
    refine jg_adr _ rfl _ rfl rfl (op_conv ⟨_, Try.underlying3⟩ Try.underlying78 (.base rfl) (mag_pos (n := len) (by omega) (by omega))) ?_
    refine jg_adr _ rfl _ rfl rfl (op_move (.base rfl)) ?_
    refine jg_adr _ rfl _ rfl rfl (op_call (mul64_ok (lt64 (by omega)) (lt64 hn)) (.cons (.base rfl) (.cons (.base rfl) .nil)) rfl rfl) ?_
    refine jg_adr _ rfl _ rfl rfl (op_move (.base rfl)) ?_
    refine jg_adr _ rfl _ rfl rfl (op_ext20 (.base rfl)) ?_
    refine jg_adr _ rfl _ rfl rfl (op_ext21 (.base rfl)) ?_
    refine jg_adr _ rfl _ rfl rfl (op_assign (.base rfl)) ?_
    refine jg_adr _ rfl _ rfl rfl (op_assign (.base rfl)) ?_
    refine jg_nil ?_
    refine jn_keep [1, 8, 9] [] (.cons rfl (.cons rfl (.cons rfl .nil))) .nil ?_
    refine jn_seq (j_seq (j_seq ?_))
    refine j_region ?_
    refine jg_adr _ rfl _ rfl rfl (op_move (.base rfl)) ?_
    refine jg_adr _ rfl _ rfl rfl (op_geq (.base rfl) (.base rfl)) ?_
    refine jg_nil ?_
    refine jn_keep [1, 8, 9, 26] [] (.cons rfl (.cons rfl (.cons rfl (.cons rfl .nil)))) .nil ?_
    refine jn_seq ?_
    refine j_cond rfl (fun h5 => ?_) (fun h5 => ?_)
    · have k5 : 1000000 ≤ (len.natAbs * n.natAbs) / 18446744073709551616 := by have := of_decide_eq_true h5; omega
      have k6 := md_big (by decide) k5
      refine j_seq ?_
      refine j_region ?_
      refine jg_adr _ rfl _ rfl rfl (op_assign (.base rfl)) ?_
      refine jg_adr _ rfl _ rfl rfl (op_assign (.base rfl)) ?_
      refine jg_adr _ rfl _ rfl rfl (op_assign (.base rfl)) ?_
      refine jg_nil ?_
      refine jn_keep [4, 5, 6] [] (.cons rfl (.cons rfl (.cons rfl .nil))) .nil ?_
      refine jn_seq (j_ret (jr_seq ?_))
      exact jr_fin3 Try.results48 (res_tmp rfl) (res_tmp rfl) (res_tmp rfl) ⟨rfl, rfl, rfl⟩ (svIIB_eq (by unfold contr; rw [if_pos k6]))
    · have k5 : (len.natAbs * n.natAbs) / 18446744073709551616 < 1000000 := by have := of_decide_eq_false h5; omega
      refine j_skip (jn_seq (j_seq ?_))
      refine j_region ?_
      refine jg_adr _ rfl _ rfl rfl (op_move (.base rfl)) ?_
      refine jg_adr _ rfl _ rfl rfl (op_move (.base rfl)) ?_
      refine jg_adr _ rfl _ rfl rfl (op_call (div64_ok (y := 1000000) k5 (by decide) (Nat.mod_lt _ (by decide))) (.cons (.base rfl) (.cons (.base rfl) (.cons (.base rfl) .nil))) rfl rfl) ?_
      refine jg_adr _ rfl _ rfl rfl (op_move (.base rfl)) ?_
      refine jg_adr _ rfl _ rfl rfl (op_ext20 (.base rfl)) ?_
      refine jg_adr _ rfl _ rfl rfl (op_ext21 (.base rfl)) ?_
      refine jg_adr _ rfl _ rfl rfl (op_assign (.base rfl)) ?_
      refine jg_adr _ rfl _ rfl rfl (op_assign (.base rfl)) ?_
      refine jg_nil ?_
      rw [Nat.div_add_mod' _ _]
      refine jn_keep [1, 10, 11] [] (.cons rfl (.cons rfl (.cons rfl .nil))) .nil ?_
      refine jn_seq (j_seq (j_seq ?_))
      refine j_region ?_
      refine jg_adr _ rfl _ rfl rfl (op_move (.base rfl)) ?_
      refine jg_adr _ rfl _ rfl rfl (op_gtr (.base rfl) (.base rfl)) ?_
      refine jg_nil ?_
      refine jn_keep [1, 10, 11, 34] [] (.cons rfl (.cons rfl (.cons rfl (.cons rfl .nil)))) .nil ?_
      refine jn_seq ?_
      refine j_cond rfl (fun h8 => ?_) (fun h8 => ?_)
      · have k8 : 1000000000000000 < (len.natAbs * n.natAbs) / 1000000 := by have := of_decide_eq_true h8; omega
        refine j_seq ?_
        refine j_region ?_
        refine jg_adr _ rfl _ rfl rfl (op_assign (.base rfl)) ?_
        refine jg_adr _ rfl _ rfl rfl (op_assign (.base rfl)) ?_
        refine jg_adr _ rfl _ rfl rfl (op_assign (.base rfl)) ?_
        refine jg_nil ?_
        refine jn_keep [4, 5, 6] [] (.cons rfl (.cons rfl (.cons rfl .nil))) .nil ?_
        refine jn_seq (j_ret (jr_seq ?_))
        exact jr_fin3 Try.results48 (res_tmp rfl) (res_tmp rfl) (res_tmp rfl) ⟨rfl, rfl, rfl⟩ (svIIB_eq (by unfold contr; rw [if_pos k8]))
      · have k8 : (len.natAbs * n.natAbs) / 1000000 ≤ 1000000000000000 := by have := of_decide_eq_false h8; omega
        have k9 : (len.natAbs * n.natAbs) % 1000000 < 1000000 := Nat.mod_lt _ (by decide)
        refine j_skip (jn_seq (j_seq (j_seq ?_)))
        refine j_region ?_
        refine jg_adr _ rfl _ rfl rfl (op_move (.base rfl)) ?_
        refine jg_adr _ rfl _ rfl rfl (op_lss (.base rfl) (.base rfl)) ?_
        refine jg_nil ?_
        refine jn_keep [10, 11, 36] [] (.cons rfl (.cons rfl (.cons rfl .nil))) .nil ?_
        refine jn_seq ?_
        refine j_cond rfl (fun h10 => ?_) (fun h10 => ?_)
        · first | (exact absurd (of_decide_eq_true h10) h2) | skip
          all_goals
            refine j_seq ?_
            refine j_region ?_
            refine jg_adr _ rfl _ rfl rfl (op_move (.base rfl)) ?_
            refine jg_adr _ rfl _ rfl rfl (op_conv ⟨_, Try.underlying78⟩ Try.underlying3 (.base rfl) (w64 (by omega))) ?_
            refine jg_adr _ rfl _ rfl rfl (op_neg (.base rfl) (w64 (by omega))) ?_
            refine jg_adr _ rfl _ rfl rfl (op_move (.base rfl)) ?_
            refine jg_adr _ rfl _ rfl rfl (op_conv ⟨_, Try.underlying78⟩ Try.underlying3 (.base rfl) (w64 (by omega))) ?_
            refine jg_adr _ rfl _ rfl rfl (op_neg (.base rfl) (w64 (by omega))) ?_
            refine jg_adr _ rfl _ rfl rfl (op_assign (.base rfl)) ?_
            refine jg_adr _ rfl _ rfl rfl (op_assign (.base rfl)) ?_
            refine jg_adr _ rfl _ rfl rfl (op_assign (.base rfl)) ?_
            refine jg_nil ?_
            refine jn_keep [4, 5, 6] [] (.cons rfl (.cons rfl (.cons rfl .nil))) .nil ?_
            refine jn_seq (j_ret (jr_seq ?_))
            exact jr_fin3 Try.results48 (res_tmp rfl) (res_tmp rfl) (res_tmp rfl) ⟨rfl, rfl, rfl⟩ (svIIB_eq (by unfold contr; rw [if_neg (by omega), if_pos h2]))
        · first | (exact absurd h2 (of_decide_eq_false h10)) | skip
          all_goals
            refine j_skip (jn_seq (j_seq ?_))
            refine j_region ?_
            refine jg_adr _ rfl _ rfl rfl (op_move (.base rfl)) ?_
            refine jg_adr _ rfl _ rfl rfl (op_conv ⟨_, Try.underlying78⟩ Try.underlying3 (.base rfl) (w64 (by omega))) ?_
            refine jg_adr _ rfl _ rfl rfl (op_move (.base rfl)) ?_
            refine jg_adr _ rfl _ rfl rfl (op_conv ⟨_, Try.underlying78⟩ Try.underlying3 (.base rfl) (w64 (by omega))) ?_
            refine jg_adr _ rfl _ rfl rfl (op_assign (.base rfl)) ?_
            refine jg_adr _ rfl _ rfl rfl (op_assign (.base rfl)) ?_
            refine jg_adr _ rfl _ rfl rfl (op_assign (.base rfl)) ?_
            refine jg_nil ?_
            refine jn_keep [4, 5, 6] [] (.cons rfl (.cons rfl (.cons rfl .nil))) .nil ?_
            refine jn_seq (j_ret ?_)
            exact jr_fin3 Try.results48 (res_tmp rfl) (res_tmp rfl) (res_tmp rfl) ⟨rfl, rfl, rfl⟩ (svIIB_eq (by unfold contr; rw [if_neg (by omega), if_neg h2]))


theorem rc_split {p m : Nat} : p * m / 1000000 = p * (m / 1000000) + p / 1000000 * (m % 1000000) + p % 1000000 * (m % 1000000) / 1000000 ∧ p * m % 1000000 = p % 1000000 * (m % 1000000) % 1000000 := by
  have e : p * m = (p * (m / 1000000) + p / 1000000 * (m % 1000000)) * 1000000 + p % 1000000 * (m % 1000000) := by
    have h1 := Nat.div_add_mod' m 1000000
    have h2 := Nat.div_add_mod' p 1000000
    calc p * m = p * (m / 1000000 * 1000000 + m % 1000000) := by rw [h1]
      _ = p * (m / 1000000) * 1000000 + p * (m % 1000000) := by rw [Nat.mul_add, Nat.mul_assoc]
      _ = p * (m / 1000000) * 1000000 + (p / 1000000 * 1000000 + p % 1000000) * (m % 1000000) := by rw [h2]
      _ = _ := by rw [Nat.add_mul (p / 1000000 * 1000000), Nat.mul_right_comm (p / 1000000), Nat.add_mul, Nat.add_assoc]
  constructor
  · rw [e, Nat.add_comm (_ * 1000000), Nat.add_mul_div_right _ _ (by decide), Nat.add_comm]
  · rw [e, Nat.add_comm (_ * 1000000), Nat.add_mul_mod_self_right]

end Go.Proofs.Ytcdkmhmlpjnfeaa
