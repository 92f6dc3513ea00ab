import Derived.Test.YtmdhmgngomlheaaP30a
import Derived.Test.YtmdhmgngomlheaaP30b
import Derived.Test.YtmdhmgngomlheaaEngC
namespace Go.Proofs.Ytmdhmgngomlheaa
open Go.Eng
set_option maxRecDepth 100000
set_option maxHeartbeats 4000000
set_option linter.unusedVariables false
set_option linter.unusedSimpArgs false

theorem ones64_ok (x : Nat) (hx : x < 2 ^ 64) : Ct Try.prog 39 [.raw (.int .u64 (x : Nat))] (.raw (.int .i64 (popN 64 x : Nat))) := by
  refine ct_intro Try.func39 rfl rfl Try.ntmps39 rfl rfl ?_
  intro w0 ok0
  refine j_seq ?_
  refine j_region ?_
  refine jg_adr _ rfl _ rfl rfl (op_assign (.base rfl)) ?_
  refine jg_nil ?_
  refine jn_keep [0] [] (.cons rfl .nil) .nil ?_
  refine jn_seq (j_seq ?_)
  obtain ⟨q1, q2, q3, q4, q5⟩ := cnt_ok x hx
  unfold cnt1 at q1
  refine j_region ?_
  refine jg_adr _ rfl _ rfl rfl (op_move (.base rfl)) ?_
  refine jg_adr _ rfl _ rfl rfl (op_shr (.base rfl) (.base rfl) (by omega) (shr_nat (s := 1) (by omega))) ?_
  refine jg_adr _ rfl _ rfl rfl (op_and (.base rfl) (.base rfl) (and_nat (m := 6148914691236517205) (by omega) (by decide))) ?_
  refine jg_adr _ rfl _ rfl rfl (op_move (.base rfl)) ?_
  refine jg_adr _ rfl _ rfl rfl (op_and (.base rfl) (.base rfl) (and_nat (m := 6148914691236517205) (by omega) (by decide))) ?_
  refine jg_adr _ rfl _ rfl rfl (op_add (.base rfl) (.base rfl) (add_nat (by omega))) ?_
  refine jg_adr _ rfl _ rfl rfl (op_assign (.base rfl)) ?_
  refine jg_nil ?_
  refine jn_keep [0] [] (.cons rfl .nil) .nil ?_
  refine jn_seq (j_seq ?_)
  have hc1 : (x / 2 ^ 1 &&& 6148914691236517205) + (x &&& 6148914691236517205) = cnt1 x := rfl
  rw [hc1]
  rw [hc1] at q1
  clear hc1
  have q2' := q2
  unfold cnt2 at q2'
  refine j_region ?_
  refine jg_adr _ rfl _ rfl rfl (op_move (.base rfl)) ?_
  refine jg_adr _ rfl _ rfl rfl (op_shr (.base rfl) (.base rfl) (by omega) (shr_nat (s := 2) (by omega))) ?_
  refine jg_adr _ rfl _ rfl rfl (op_and (.base rfl) (.base rfl) (and_nat (m := 3689348814741910323) (by omega) (by decide))) ?_
  refine jg_adr _ rfl _ rfl rfl (op_move (.base rfl)) ?_
  refine jg_adr _ rfl _ rfl rfl (op_and (.base rfl) (.base rfl) (and_nat (m := 3689348814741910323) (by omega) (by decide))) ?_
  refine jg_adr _ rfl _ rfl rfl (op_add (.base rfl) (.base rfl) (add_nat (by omega))) ?_
  refine jg_adr _ rfl _ rfl rfl (op_assign (.base rfl)) ?_
  refine jg_nil ?_
  refine jn_keep [0] [] (.cons rfl .nil) .nil ?_
  refine jn_seq (j_seq ?_)
  have hc2 : (cnt1 x / 2 ^ 2 &&& 3689348814741910323) + (cnt1 x &&& 3689348814741910323) = cnt2 (cnt1 x) := rfl
  rw [hc2]
  clear hc2 q2'
  refine j_region ?_
  refine jg_adr _ rfl _ rfl rfl (op_move (.base rfl)) ?_
  refine jg_adr _ rfl _ rfl rfl (op_shr (.base rfl) (.base rfl) (by omega) (shr_nat (s := 4) (by omega))) ?_
  refine jg_adr _ rfl _ rfl rfl (op_move (.base rfl)) ?_
  refine jg_adr _ rfl _ rfl rfl (op_add (.base rfl) (.base rfl) (add_nat (by omega))) ?_
  refine jg_adr _ rfl _ rfl rfl (op_and (.base rfl) (.base rfl) (and_nat (m := 1085102592571150095) (by omega) (by decide))) ?_
  refine jg_adr _ rfl _ rfl rfl (op_assign (.base rfl)) ?_
  refine jg_nil ?_
  refine jn_keep [0] [] (.cons rfl .nil) .nil ?_
  refine jn_seq (j_seq ?_)
  have hc3 : (cnt2 (cnt1 x) / 2 ^ 4 + cnt2 (cnt1 x)) &&& 1085102592571150095 = cnt3 (cnt2 (cnt1 x)) := rfl
  rw [hc3]
  clear hc3
  generalize cnt3 (cnt2 (cnt1 x)) = y at *
  refine j_region ?_
  refine jg_adr _ rfl _ rfl rfl (op_move (.base rfl)) ?_
  refine jg_adr _ rfl _ rfl rfl (op_move (.base rfl)) ?_
  refine jg_adr _ rfl _ rfl rfl (op_shr (.base rfl) (.base rfl) (by omega) (shr_nat (s := 8) (by omega))) ?_
  refine jg_adr _ rfl _ rfl rfl (op_add (.base rfl) (.base rfl) (add_nat (by omega))) ?_
  refine jg_adr _ rfl _ rfl rfl (op_assign (.base rfl)) ?_
  refine jg_nil ?_
  refine jn_keep [0] [] (.cons rfl .nil) .nil ?_
  refine jn_seq (j_seq ?_)
  refine j_region ?_
  refine jg_adr _ rfl _ rfl rfl (op_move (.base rfl)) ?_
  refine jg_adr _ rfl _ rfl rfl (op_move (.base rfl)) ?_
  refine jg_adr _ rfl _ rfl rfl (op_shr (.base rfl) (.base rfl) (by omega) (shr_nat (s := 16) (by omega))) ?_
  refine jg_adr _ rfl _ rfl rfl (op_add (.base rfl) (.base rfl) (add_nat (by omega))) ?_
  refine jg_adr _ rfl _ rfl rfl (op_assign (.base rfl)) ?_
  refine jg_nil ?_
  refine jn_keep [0] [] (.cons rfl .nil) .nil ?_
  refine jn_seq (j_seq ?_)
  refine j_region ?_
  refine jg_adr _ rfl _ rfl rfl (op_move (.base rfl)) ?_
  refine jg_adr _ rfl _ rfl rfl (op_move (.base rfl)) ?_
  refine jg_adr _ rfl _ rfl rfl (op_shr (.base rfl) (.base rfl) (by omega) (shr_nat (s := 32) (by omega))) ?_
  refine jg_adr _ rfl _ rfl rfl (op_add (.base rfl) (.base rfl) (add_nat (by omega))) ?_
  refine jg_adr _ rfl _ rfl rfl (op_assign (.base rfl)) ?_
  refine jg_nil ?_
  refine jn_keep [0] [] (.cons rfl .nil) .nil ?_
  refine jn_seq (j_seq ?_)
  refine j_region ?_
  refine jg_adr _ rfl _ rfl rfl (op_move (.base rfl)) ?_
  refine jg_adr _ rfl _ rfl rfl (op_conv ⟨_, Try.underlying59⟩ Try.underlying3 (.base rfl) (show IntKind.i64.wrap _ = ((cnt6 (cnt5 (cnt4 y)) : Nat) : Int) from w64 (by first | omega | (simp only [cnt6, cnt5, cnt4]; omega)))) ?_
  refine jg_adr _ rfl _ rfl rfl (op_and (.base rfl) (.base rfl) (show andI _ ((127 : Nat) : Int) = ((popN 64 x : Nat) : Int) from by rw [← q5, andI_nat (by simp only [cnt6, cnt5, cnt4]; omega) (by omega)]; rw [show (127 : Nat) = 2 ^ 7 - 1 from rfl, Nat.and_two_pow_sub_one_eq_mod])) ?_
  refine jg_adr _ rfl _ rfl rfl (op_assign (.base rfl)) ?_
  refine jg_nil ?_
  refine jn_keep [2] [] (.cons rfl .nil) .nil ?_
  refine jn_seq (j_ret ?_)
  exact jr_fin1 Try.results39 (res_tmp rfl) rfl rfl

theorem ones_ok (x : Nat) (hx : x < 2 ^ 64) : Ct Try.prog 30 [.raw (.int .u64 (x : Nat))] (.raw (.int .i64 (popN 64 x : Nat))) := by
  refine ct_intro Try.func30 rfl rfl Try.ntmps30 rfl rfl ?_
  intro w0 ok0
  refine j_seq ?_
  refine j_region ?_
  refine jg_adr _ rfl _ rfl rfl (op_assign (.base rfl)) ?_
  refine jg_nil ?_
  refine jn_keep [0] [] (.cons rfl .nil) .nil ?_
  refine jn_seq (j_seq ?_)
  refine j_cond rfl (fun h0 => ?_) (fun h0 => ?_)
  · cases h0
  · try simp at h0
    refine j_skip (jn_seq (j_seq ?_))
    refine j_region ?_
    refine jg_adr _ rfl _ rfl rfl (op_move (.base rfl)) ?_
    refine jg_adr _ rfl _ rfl rfl (op_call (ones64_ok x hx) (.cons (.base rfl) .nil) rfl rfl) ?_
    refine jg_adr _ rfl _ rfl rfl (op_assign (.base rfl)) ?_
    refine jg_nil ?_
    refine jn_keep [2] [] (.cons rfl .nil) .nil ?_
    refine jn_seq (j_ret ?_)
    exact jr_fin1 Try.results30 (res_tmp rfl) rfl rfl

def clampF (n : Int) : Nat := if n < 0 then 0 else if n > 8 then 8 else n.toNat
theorem clampF_le (n : Int) : clampF n ≤ 8 := by unfold clampF; split; omega; split <;> omega
def oneP : Int × Int := (0, 0)
theorem clamp_ok (n : Int) : Ct Try.prog 22 [.raw (.int .i64 n)] (.raw (.int .i64 (clampF n : Nat))) := by
  refine ct_intro Try.func22 rfl rfl Try.ntmps22 rfl rfl ?_
  intro w0 ok0
  refine j_seq ?_
  refine j_region ?_
  refine jg_adr _ rfl _ rfl rfl (op_assign (.base rfl)) ?_
  refine jg_nil ?_
  refine jn_keep [0] [] (.cons rfl .nil) .nil ?_
  refine jn_seq (j_seq ?_)
  refine j_region ?_
  refine jg_adr _ rfl _ rfl rfl (op_move (.base rfl)) ?_
  refine jg_adr _ rfl _ rfl rfl (op_max (.base rfl) (.base rfl)) ?_
  refine jg_adr _ rfl _ rfl rfl (op_min (.base rfl) (.base rfl)) ?_
  refine jg_adr _ rfl _ rfl rfl (op_assign (.base rfl)) ?_
  refine jg_nil ?_
  refine jn_keep [2] [] (.cons rfl .nil) .nil ?_
  refine jn_seq (j_ret ?_)
  exact jr_fin1 Try.results22 (res_tmp rfl) rfl (ri (by unfold clampF; (repeat' split) <;> omega))

theorem rclamp_ok (n : Int) : Ct Try.prog 25 [.raw (.int .i64 n)] (.raw (.int .i64 (clampF n : Nat))) := by
  refine ct_intro Try.func25 rfl rfl Try.ntmps25 rfl rfl ?_
  intro w0 ok0
  refine j_seq ?_
  refine j_region ?_
  refine jg_adr _ rfl _ rfl rfl (op_assign (.base rfl)) ?_
  refine jg_nil ?_
  refine jn_keep [0] [] (.cons rfl .nil) .nil ?_
  refine jn_seq (j_seq (j_seq ?_))
  refine j_region ?_
  refine jg_adr _ rfl _ rfl rfl (op_move (.base rfl)) ?_
  refine jg_adr _ rfl _ rfl rfl (op_lss (.base rfl) (.base rfl)) ?_
  refine jg_nil ?_
  refine jn_keep [0, 4] [] (.cons rfl (.cons rfl .nil)) .nil ?_
  refine jn_seq ?_
  refine j_cond rfl (fun h1 => ?_) (fun h1 => ?_)
  · try simp at h1
    refine j_seq ?_
    refine j_region ?_
    refine jg_adr _ rfl _ rfl rfl (op_assign (.base rfl)) ?_
    refine jg_nil ?_
    refine jn_keep [2] [] (.cons rfl .nil) .nil ?_
    refine jn_seq (j_ret (jr_seq ?_))
    exact jr_fin1 Try.results25 (res_tmp rfl) rfl (ri (by unfold clampF; (repeat' split) <;> omega))
  · try simp at h1
    refine j_skip (jn_seq (j_seq (j_seq ?_)))
    refine j_region ?_
    refine jg_adr _ rfl _ rfl rfl (op_move (.base rfl)) ?_
    refine jg_adr _ rfl _ rfl rfl (op_gtr (.base rfl) (.base rfl)) ?_
    refine jg_nil ?_
    refine jn_keep [0, 6] [] (.cons rfl (.cons rfl .nil)) .nil ?_
    refine jn_seq ?_
    refine j_cond rfl (fun h3 => ?_) (fun h3 => ?_)
    · try simp at h3
      refine j_seq ?_
      refine j_region ?_
      refine jg_adr _ rfl _ rfl rfl (op_assign (.base rfl)) ?_
      refine jg_nil ?_
      refine jn_keep [2] [] (.cons rfl .nil) .nil ?_
      refine jn_seq (j_ret (jr_seq ?_))
      exact jr_fin1 Try.results25 (res_tmp rfl) rfl (ri (by unfold clampF; (repeat' split) <;> omega))
    · try simp at h3
      refine j_skip (jn_seq (j_seq ?_))
      refine j_region ?_
      refine jg_adr _ rfl _ rfl rfl (op_move (.base rfl)) ?_
      refine jg_adr _ rfl _ rfl rfl (op_assign (.base rfl)) ?_
      refine jg_nil ?_
      refine jn_keep [2] [] (.cons rfl .nil) .nil ?_
      refine jn_seq (j_ret ?_)
      exact jr_fin1 Try.results25 (res_tmp rfl) rfl (ri (by unfold clampF; (repeat' split) <;> omega))

theorem size_ok (c : Nat) (hc : c ≤ 8) : Ct Try.prog 32 [.raw (.int .i64 (c : Nat))] (.raw (.int .i64 ((2 ^ c : Nat) : Int))) := by
  refine ct_intro Try.func32 rfl rfl Try.ntmps32 rfl rfl ?_
  intro w0 ok0
  refine j_seq ?_
  refine j_region ?_
  refine jg_adr _ rfl _ rfl rfl (op_assign (.base rfl)) ?_
  refine jg_nil ?_
  refine jn_keep [0] [] (.cons rfl .nil) .nil ?_
  refine jn_seq (j_seq ?_)
  refine j_region ?_
  refine jg_adr _ rfl _ rfl rfl (op_assign (.base rfl)) ?_
  refine jg_nil ?_
  refine jn_keep [0, 3] [] (.cons rfl (.cons rfl .nil)) .nil ?_
  refine jn_seq (j_seq (j_seq ?_))
  refine j_region ?_
  refine jg_adr _ rfl _ rfl rfl (op_assign (.base rfl)) ?_
  refine jg_nil ?_
  refine jn_keep [0, 3, 4] [] (.cons rfl (.cons rfl (.cons rfl .nil))) .nil ?_
  refine jn_seq (j_block ?_)
  refine j_loopp (ι := Nat) (fun k => ⟨[(0, .raw (.int .i64 ((c : Nat)))), (3, .raw (.int .i64 (((2 ^ k : Nat) : Int)))), (4, .raw (.int .i64 ((k : Nat))))], []⟩) (fun k => k ≤ c) (fun k => c - k) 0 (by omega) (fun a w hi => (Sub.inv ⟨(by repeat (first | exact SubS_nil | refine SubS_cons rfl (by first | rfl | (simp; done) | assumption) ?_)), (by repeat (first | exact SubH_nil | refine SubH_cons rfl (by first | rfl | (simp; done) | assumption) ?_))⟩ hi)) ?_
  rintro k hk
  have h2k : 2 ^ k ≤ 2 ^ 8 := Nat.pow_le_pow_right (by omega) (by omega)
  refine j_seq (j_seq ?_)
  refine j_region ?_
  refine jg_adr _ rfl _ rfl rfl (op_move (.base rfl)) ?_
  refine jg_adr _ rfl _ rfl rfl (op_move (.base rfl)) ?_
  refine jg_adr _ rfl _ rfl rfl (op_lss (.base rfl) (.base rfl)) ?_
  refine jg_nil ?_
  refine jn_keep [0, 3, 4, 7] [] (.cons rfl (.cons rfl (.cons rfl (.cons rfl .nil)))) .nil ?_
  refine jn_seq ?_
  refine j_cond rfl (fun h3 => ?_) (fun h3 => ?_)
  · try simp at h3
    refine j_skip (jn_seq (j_seq (j_block ?_)))
    refine j_region ?_
    refine jg_adr _ rfl _ rfl rfl (op_move (.base rfl)) ?_
    refine jg_adr _ rfl _ rfl rfl (op_mul (.base rfl) (.base rfl) (w64 (by have h2 := h2k; generalize 2 ^ k = z at *; omega))) ?_
    refine jg_adr _ rfl _ rfl rfl (op_assign (.base rfl)) ?_
    refine jg_nil ?_
    refine jn_keep [0, 3, 4] [] (.cons rfl (.cons rfl (.cons rfl .nil))) .nil ?_
    refine jn_blk (jn_seq ?_)
    refine j_region ?_
    refine jg_adr _ rfl _ rfl rfl (op_move (.base rfl)) ?_
    refine jg_adr _ rfl _ rfl rfl (op_add (.base rfl) (.base rfl) (w64 (by omega))) ?_
    refine jg_adr _ rfl _ rfl rfl (op_assign (.base rfl)) ?_
    refine jg_nil ?_
    refine jn_keep [0, 3, 4] [] (.cons rfl (.cons rfl (.cons rfl .nil))) .nil ?_
    exact jn_loop (fun a w hi => ⟨k + 1, (by first | omega | (simp; omega)), (by omega), (Sub.inv ⟨(by repeat (first | exact SubS_nil | refine SubS_cons rfl (by first | rfl | (simp; done) | (refine congrArg (fun x => SV.raw (.int .i64 x)) ?_; rw [Nat.pow_succ]; omega) | assumption) ?_)), (by repeat (first | exact SubH_nil | refine SubH_cons rfl (by first | rfl | (simp; done) | (refine congrArg (fun x => SV.raw (.int .i64 x)) ?_; rw [Nat.pow_succ]; omega) | assumption) ?_))⟩ hi)⟩)
  · try simp at h3
    refine j_exit (je_seq (je_loop (je_blk (jn_seq (j_seq ?_)))))
    refine j_region ?_
    refine jg_adr _ rfl _ rfl rfl (op_move (.base rfl)) ?_
    refine jg_adr _ rfl _ rfl rfl (op_assign (.base rfl)) ?_
    refine jg_nil ?_
    refine jn_keep [2] [] (.cons rfl .nil) .nil ?_
    refine jn_seq (j_ret ?_)
    exact jr_fin1 Try.results32 (res_tmp rfl) rfl (ri (by have : k = c := (by omega); subst this; rfl))

def matchI (p : TPattern) (x : Int) : Bool := andI x p.1 == p.2
theorem matches_ok (p : TPattern) (x : Int) : Ct Try.prog 16 [.tv rPattern p, .raw (.int .i64 x)] (.raw (.bool (matchI p x))) := by
  refine ct_intro Try.func16 rfl rfl Try.ntmps16 rfl rfl ?_
  intro w0 ok0
  refine j_seq ?_
  refine j_region ?_
  refine jg_os _ rfl (op_box (.tv (.base rfl)) rfl rfl rfl) ?_
  refine jg_adr _ rfl _ rfl rfl (op_assign (.base rfl)) ?_
  refine jg_nil ?_
  refine jn_keep [1, 2] [2] (.cons rfl (.cons rfl .nil)) (.cons rfl .nil) ?_
  refine jn_seq (j_seq ?_)
  refine j_region ?_
  refine jg_adr _ rfl _ rfl rfl (op_move (.base rfl)) ?_
  refine jg_adr _ rfl _ rfl rfl (op_ofield fld29_0 (.base rfl)) ?_
  refine jg_adr _ rfl _ rfl rfl (op_oload ty3 (.base rfl) rfl rfl ln29_0) ?_
  refine jg_adr _ rfl _ rfl rfl (op_and (.base rfl) (.base rfl) rfl) ?_
  refine jg_adr _ rfl _ rfl rfl (op_ofield fld29_1 (.base rfl)) ?_
  refine jg_adr _ rfl _ rfl rfl (op_oload ty3 (.base rfl) rfl rfl ln29_1) ?_
  refine jg_adr _ rfl _ rfl rfl (op_eql (.base rfl) (.base rfl)) ?_
  refine jg_adr _ rfl _ rfl rfl (op_assign (.base rfl)) ?_
  refine jg_nil ?_
  refine jn_keep [4] [] (.cons rfl .nil) .nil ?_
  refine jn_seq (j_ret ?_)
  exact jr_fin1 Try.results16 (res_tmp rfl) rfl rfl

theorem rmatches_ok (p : TPattern) (x : Int) : Ct Try.prog 17 [.tv rPattern p, .raw (.int .i64 x)] (.raw (.bool (matchI p x))) := by
  refine ct_intro Try.func17 rfl rfl Try.ntmps17 rfl rfl ?_
  intro w0 ok0
  refine j_seq ?_
  refine j_region ?_
  refine jg_os _ rfl (op_box (.tv (.base rfl)) rfl rfl rfl) ?_
  refine jg_adr _ rfl _ rfl rfl (op_assign (.base rfl)) ?_
  refine jg_nil ?_
  refine jn_keep [1, 2] [2] (.cons rfl (.cons rfl .nil)) (.cons rfl .nil) ?_
  refine jn_seq (j_seq ?_)
  refine j_region ?_
  refine jg_adr _ rfl _ rfl rfl (op_move (.base rfl)) ?_
  refine jg_adr _ rfl _ rfl rfl (op_ofield fld29_0 (.base rfl)) ?_
  refine jg_adr _ rfl _ rfl rfl (op_oload ty3 (.base rfl) rfl rfl ln29_0) ?_
  refine jg_adr _ rfl _ rfl rfl (op_and (.base rfl) (.base rfl) rfl) ?_
  refine jg_adr _ rfl _ rfl rfl (op_ofield fld29_1 (.base rfl)) ?_
  refine jg_adr _ rfl _ rfl rfl (op_oload ty3 (.base rfl) rfl rfl ln29_1) ?_
  refine jg_adr _ rfl _ rfl rfl (op_eql (.base rfl) (.base rfl)) ?_
  refine jg_adr _ rfl _ rfl rfl (op_assign (.base rfl)) ?_
  refine jg_nil ?_
  refine jn_keep [4] [] (.cons rfl .nil) .nil ?_
  refine jn_seq (j_ret ?_)
  exact jr_fin1 Try.results17 (res_tmp rfl) rfl rfl

def validF (p : TPattern) (n : Int) : Bool := decide (0 ≤ p.1) && decide (p.1 < ((2 ^ clampF n : Nat) : Int)) && decide (0 ≤ p.2) && (andI p.2 p.1 == p.2)
theorem shl1 (n : Int) : IntKind.i64.wrap (1 * 2 ^ (min ((clampF n : Nat) : Int).toNat IntKind.i64.bits)) = ((2 ^ clampF n : Nat) : Int) := by
  have h := clampF_le n
  rw [Int.toNat_natCast, Nat.min_eq_left (by simp [IntKind.bits]; omega)]
  have h2 : 2 ^ clampF n ≤ 2 ^ 8 := Nat.pow_le_pow_right (by omega) h
  rw [Int.one_mul, show ((2 : Int) ^ clampF n) = ((2 ^ clampF n : Nat) : Int) by simp]
  generalize 2 ^ clampF n = z at *
  exact w64 (by omega)
theorem valid_ok (p : TPattern) (n : Int) : Ct Try.prog 14 [.tv rPattern p, .raw (.int .i64 n)] (.raw (.bool (validF p n))) := by
  refine ct_intro Try.func14 rfl rfl Try.ntmps14 rfl rfl ?_
  intro w0 ok0
  refine j_seq ?_
  refine j_region ?_
  refine jg_os _ rfl (op_box (.tv (.base rfl)) rfl rfl rfl) ?_
  refine jg_adr _ rfl _ rfl rfl (op_assign (.base rfl)) ?_
  refine jg_nil ?_
  refine jn_keep [1, 2] [2] (.cons rfl (.cons rfl .nil)) (.cons rfl .nil) ?_
  refine jn_seq (j_seq ?_)
  refine j_draw mo (by kernel_rfl) (
    AS.cons _ _ rfl (ga_adr rfl rfl rfl (op_ofield fld29_0 (.base rfl))) (
      AS.cons _ _ rfl (ga_adr rfl rfl rfl (op_oload ty3 (.base rfl) rfl rfl ln29_0)) (
      AS.cons _ _ rfl (ga_adr rfl rfl rfl (op_geq (.base rfl) (.base rfl))) (
      AS.cons _ _ rfl (ga_adr rfl rfl rfl (op_move (.base rfl))) (
      AS.cons _ _ rfl (ga_gd _ _ _ _ rfl rfl rfl rfl rfl (fun hg => op_ofield fld29_0 (.base rfl))) (
      AS.cons _ _ rfl (ga_gd _ _ _ _ rfl rfl rfl rfl rfl (fun hg => op_oload ty3 (.gd rfl hg) rfl rfl ln29_0)) (
      AS.cons _ _ rfl (ga_gd _ _ _ _ rfl rfl rfl rfl rfl (fun hg => op_move (.base rfl))) (
      AS.cons _ _ rfl (ga_gd _ _ _ _ rfl rfl rfl rfl rfl (fun hg => op_call (clamp_ok _) (.cons (.gd rfl hg) .nil) rfl rfl)) (
      AS.cons _ _ rfl (ga_gd _ _ _ _ rfl rfl rfl rfl rfl (fun hg => op_shl (.base rfl) (.gd rfl hg) (by omega) (shl1 n))) (
      AS.cons _ _ rfl (ga_gd _ _ _ _ rfl rfl rfl rfl rfl (fun hg => op_lss (.gd rfl hg) (.gd rfl hg))) (
      AS.cons _ _ rfl (ga_adr rfl rfl rfl (op_pick_and (.base rfl) (.base rfl) rfl (by intro h; first | (rw [h]; rfl) | (rw [hg, h]; rfl) | (rw [h, hg]; rfl) | simp_all))) (
      AS.cons _ _ rfl (ga_adr rfl rfl rfl (op_move (.base rfl))) (
      AS.cons _ _ rfl (ga_gd _ _ _ _ rfl rfl rfl rfl rfl (fun hg => op_ofield fld29_1 (.base rfl))) (
      AS.cons _ _ rfl (ga_gd _ _ _ _ rfl rfl rfl rfl rfl (fun hg => op_oload ty3 (.gd rfl hg) rfl rfl ln29_1)) (
      AS.cons _ _ rfl (ga_gd _ _ _ _ rfl rfl rfl rfl rfl (fun hg => op_geq (.gd rfl hg) (.base rfl))) (
      AS.cons _ _ rfl (ga_adr rfl rfl rfl (op_pick_and (.base rfl) (.base rfl) rfl (by intro h; first | (rw [h]; rfl) | (rw [hg, h]; rfl) | (rw [h, hg]; rfl) | simp_all))) (
      AS.cons _ _ rfl (ga_adr rfl rfl rfl (op_move (.base rfl))) (
      AS.cons _ _ rfl (ga_gd _ _ _ _ rfl rfl rfl rfl rfl (fun hg => op_ofield fld29_1 (.base rfl))) (
      AS.cons _ _ rfl (ga_gd _ _ _ _ rfl rfl rfl rfl rfl (fun hg => op_oload ty3 (.gd rfl hg) rfl rfl ln29_1)) (
      AS.cons _ _ rfl (ga_gd _ _ _ _ rfl rfl rfl rfl rfl (fun hg => op_ofield fld29_0 (.base rfl))) (
      AS.cons _ _ rfl (ga_gd _ _ _ _ rfl rfl rfl rfl rfl (fun hg => op_oload ty3 (.gd rfl hg) rfl rfl ln29_0)) (
      AS.cons _ _ rfl (ga_gd _ _ _ _ rfl rfl rfl rfl rfl (fun hg => op_and (.gd rfl hg) (.gd rfl hg) rfl)) (
      AS.cons _ _ rfl (ga_gd _ _ _ _ rfl rfl rfl rfl rfl (fun hg => op_ofield fld29_1 (.base rfl))) (
      AS.cons _ _ rfl (ga_gd _ _ _ _ rfl rfl rfl rfl rfl (fun hg => op_oload ty3 (.gd rfl hg) rfl rfl ln29_1)) (
      AS.cons _ _ rfl (ga_gd _ _ _ _ rfl rfl rfl rfl rfl (fun hg => op_eql (.gd rfl hg) (.gd rfl hg))) (
      AS.cons _ _ rfl (ga_adr rfl rfl rfl (op_pick_and (.base rfl) (.base rfl) rfl (by intro h; first | (rw [h]; rfl) | (rw [hg, h]; rfl) | (rw [h, hg]; rfl) | simp_all))) (
      AS.cons _ _ rfl (ga_adr rfl rfl rfl (op_assign (.base rfl))) (
      AS.nil)))))))))))))))))))))))))))) ?_
  refine jn_keep [4] [] (.cons rfl .nil) .nil ?_
  refine jn_seq (j_ret ?_)
  exact jr_fin1 Try.results14 (res_tmp rfl) rfl (rb (by unfold validF; by_cases g1 : 0 ≤ p.1 <;> by_cases g2 : p.1 < ((2 ^ clampF n : Nat) : Int) <;> by_cases g3 : 0 ≤ p.2 <;> simp [g1, g2, g3, ge_iff_le]))

theorem rvalid_ok (p : TPattern) (n : Int) : Ct Try.prog 15 [.tv rPattern p, .raw (.int .i64 n)] (.raw (.bool (validF p n))) := by
  refine ct_intro Try.func15 rfl rfl Try.ntmps15 rfl rfl ?_
  intro w0 ok0
  refine j_seq ?_
  refine j_region ?_
  refine jg_os _ rfl (op_box (.tv (.base rfl)) rfl rfl rfl) ?_
  refine jg_adr _ rfl _ rfl rfl (op_assign (.base rfl)) ?_
  refine jg_nil ?_
  refine jn_keep [1, 2] [2] (.cons rfl (.cons rfl .nil)) (.cons rfl .nil) ?_
  refine jn_seq (j_seq ?_)
  refine j_draw mo (by kernel_rfl) (
    AS.cons _ _ rfl (ga_adr rfl rfl rfl (op_ofield fld29_0 (.base rfl))) (
      AS.cons _ _ rfl (ga_adr rfl rfl rfl (op_oload ty3 (.base rfl) rfl rfl ln29_0)) (
      AS.cons _ _ rfl (ga_adr rfl rfl rfl (op_geq (.base rfl) (.base rfl))) (
      AS.cons _ _ rfl (ga_adr rfl rfl rfl (op_move (.base rfl))) (
      AS.cons _ _ rfl (ga_gd _ _ _ _ rfl rfl rfl rfl rfl (fun hg => op_ofield fld29_0 (.base rfl))) (
      AS.cons _ _ rfl (ga_gd _ _ _ _ rfl rfl rfl rfl rfl (fun hg => op_oload ty3 (.gd rfl hg) rfl rfl ln29_0)) (
      AS.cons _ _ rfl (ga_gd _ _ _ _ rfl rfl rfl rfl rfl (fun hg => op_move (.base rfl))) (
      AS.cons _ _ rfl (ga_gd _ _ _ _ rfl rfl rfl rfl rfl (fun hg => op_call (rclamp_ok _) (.cons (.gd rfl hg) .nil) rfl rfl)) (
      AS.cons _ _ rfl (ga_gd _ _ _ _ rfl rfl rfl rfl rfl (fun hg => op_call (size_ok _ (clampF_le n)) (.cons (.gd rfl hg) .nil) rfl rfl)) (
      AS.cons _ _ rfl (ga_gd _ _ _ _ rfl rfl rfl rfl rfl (fun hg => op_lss (.gd rfl hg) (.gd rfl hg))) (
      AS.cons _ _ rfl (ga_adr rfl rfl rfl (op_pick_and (.base rfl) (.base rfl) rfl (by intro h; first | (rw [h]; rfl) | (rw [hg, h]; rfl) | (rw [h, hg]; rfl) | simp_all))) (
      AS.cons _ _ rfl (ga_adr rfl rfl rfl (op_move (.base rfl))) (
      AS.cons _ _ rfl (ga_gd _ _ _ _ rfl rfl rfl rfl rfl (fun hg => op_ofield fld29_1 (.base rfl))) (
      AS.cons _ _ rfl (ga_gd _ _ _ _ rfl rfl rfl rfl rfl (fun hg => op_oload ty3 (.gd rfl hg) rfl rfl ln29_1)) (
      AS.cons _ _ rfl (ga_gd _ _ _ _ rfl rfl rfl rfl rfl (fun hg => op_geq (.gd rfl hg) (.base rfl))) (
      AS.cons _ _ rfl (ga_adr rfl rfl rfl (op_pick_and (.base rfl) (.base rfl) rfl (by intro h; first | (rw [h]; rfl) | (rw [hg, h]; rfl) | (rw [h, hg]; rfl) | simp_all))) (
      AS.cons _ _ rfl (ga_adr rfl rfl rfl (op_move (.base rfl))) (
      AS.cons _ _ rfl (ga_gd _ _ _ _ rfl rfl rfl rfl rfl (fun hg => op_ofield fld29_1 (.base rfl))) (
      AS.cons _ _ rfl (ga_gd _ _ _ _ rfl rfl rfl rfl rfl (fun hg => op_oload ty3 (.gd rfl hg) rfl rfl ln29_1)) (
      AS.cons _ _ rfl (ga_gd _ _ _ _ rfl rfl rfl rfl rfl (fun hg => op_ofield fld29_0 (.base rfl))) (
      AS.cons _ _ rfl (ga_gd _ _ _ _ rfl rfl rfl rfl rfl (fun hg => op_oload ty3 (.gd rfl hg) rfl rfl ln29_0)) (
      AS.cons _ _ rfl (ga_gd _ _ _ _ rfl rfl rfl rfl rfl (fun hg => op_and (.gd rfl hg) (.gd rfl hg) rfl)) (
      AS.cons _ _ rfl (ga_gd _ _ _ _ rfl rfl rfl rfl rfl (fun hg => op_ofield fld29_1 (.base rfl))) (
      AS.cons _ _ rfl (ga_gd _ _ _ _ rfl rfl rfl rfl rfl (fun hg => op_oload ty3 (.gd rfl hg) rfl rfl ln29_1)) (
      AS.cons _ _ rfl (ga_gd _ _ _ _ rfl rfl rfl rfl rfl (fun hg => op_eql (.gd rfl hg) (.gd rfl hg))) (
      AS.cons _ _ rfl (ga_adr rfl rfl rfl (op_pick_and (.base rfl) (.base rfl) rfl (by intro h; first | (rw [h]; rfl) | (rw [hg, h]; rfl) | (rw [h, hg]; rfl) | simp_all))) (
      AS.cons _ _ rfl (ga_adr rfl rfl rfl (op_assign (.base rfl))) (
      AS.nil)))))))))))))))))))))))))))) ?_
  refine jn_keep [4] [] (.cons rfl .nil) .nil ?_
  refine jn_seq (j_ret ?_)
  exact jr_fin1 Try.results15 (res_tmp rfl) rfl (rb (by unfold validF; by_cases g1 : 0 ≤ p.1 <;> by_cases g2 : p.1 < ((2 ^ clampF n : Nat) : Int) <;> by_cases g3 : 0 ≤ p.2 <;> simp [g1, g2, g3, ge_iff_le]))

theorem power_ok (x : Int) : Ct Try.prog 31 [.raw (.int .i64 x)] (.raw (.bool (powI x))) := by
  refine ct_intro Try.func31 rfl rfl Try.ntmps31 rfl rfl ?_
  intro w0 ok0
  refine j_seq ?_
  refine j_region ?_
  refine jg_adr _ rfl _ rfl rfl (op_assign (.base rfl)) ?_
  refine jg_nil ?_
  refine jn_keep [0] [] (.cons rfl .nil) .nil ?_
  refine jn_seq (j_seq ?_)
  refine j_region ?_
  refine jg_adr _ rfl _ rfl rfl (op_move (.base rfl)) ?_
  refine jg_adr _ rfl _ rfl rfl (op_neq (.base rfl) (.base rfl)) ?_
  refine jg_adr _ rfl _ rfl rfl (op_move (.base rfl)) ?_
  refine jg_gd _ _ _ _ _ _ rfl rfl rfl rfl rfl (fun hg => op_move (.base rfl)) ?_
  refine jg_gd _ _ _ _ _ _ rfl rfl rfl rfl rfl (fun hg => op_move (.base rfl)) ?_
  refine jg_gd _ _ _ _ _ _ rfl rfl rfl rfl rfl (fun hg => op_sub (.gd rfl hg) (.base rfl) rfl) ?_
  refine jg_gd _ _ _ _ _ _ rfl rfl rfl rfl rfl (fun hg => op_and (.gd rfl hg) (.gd rfl hg) rfl) ?_
  refine jg_gd _ _ _ _ _ _ rfl rfl rfl rfl rfl (fun hg => op_eql (.gd rfl hg) (.base rfl)) ?_
  refine jg_adr _ rfl _ rfl rfl (op_pick_and (.base rfl) (.base rfl) rfl (by intro h; first | (rw [h]; rfl) | (rw [hg, h]; rfl) | (rw [h, hg]; rfl) | simp_all)) ?_
  refine jg_adr _ rfl _ rfl rfl (op_assign (.base rfl)) ?_
  refine jg_nil ?_
  refine jn_keep [2] [] (.cons rfl .nil) .nil ?_
  refine jn_seq (j_ret ?_)
  exact jr_fin1 Try.results31 (res_tmp rfl) rfl (rb (by unfold powI; cases q : (x != 0) <;> simp))

def svPB (r : TPattern × Bool) : SV := .tup2 (.tv rPattern r.1) (.raw (.bool r.2))
theorem svPB_eq {p : TPattern} {c : Bool} {r : TPattern × Bool} (h : (p, c) = r) : SV.tup2 (.tv rPattern p) (.raw (.bool c)) = svPB r := by subst h; rfl
theorem mergeF_t {a b : TPattern} (h : (a.1 ≠ b.1 ∨ cntI (xorI a.2 b.2) ≠ 1 ∨ andI (xorI a.2 b.2) a.1 = 0)) : ((0, 0), false) = mergeF a b := (if_pos h).symm
theorem mergeF_f {a b : TPattern} (h : ¬ (a.1 ≠ b.1 ∨ cntI (xorI a.2 b.2) ≠ 1 ∨ andI (xorI a.2 b.2) a.1 = 0)) : ((anI a.1 (xorI a.2 b.2), anI a.2 (xorI a.2 b.2)), true) = mergeF a b := (if_neg h).symm
theorem orB {p q r : Bool} (h : (p || q || r) = true) : p = true ∨ q = true ∨ r = true := by cases p <;> cases q <;> simp_all
theorem orB' {p q r : Bool} (h : (p || q || r) = false) : p = false ∧ q = false ∧ r = false := by cases p <;> cases q <;> simp_all
theorem merge_ok (a b : TPattern) : Ct Try.prog 12 [.tv rPattern a, .tv rPattern b] (svPB (mergeF a b)) := by
  refine ct_intro Try.func12 rfl rfl Try.ntmps12 rfl rfl ?_
  intro w0 ok0
  refine j_seq ?_
  refine j_region ?_
  refine jg_os _ rfl (op_box (.tv (.base rfl)) rfl rfl rfl) ?_
  refine jg_os _ rfl (op_box (.tv (.base rfl)) rfl rfl rfl) ?_
  refine jg_os _ rfl (op_alloc _ z29 rfl rfl rfl) ?_
  refine jg_adr _ rfl _ rfl rfl (op_assign (.base rfl)) ?_
  refine jg_nil ?_
  refine jn_keep [2, 3, 4] [2, 3, 4] (.cons rfl (.cons rfl (.cons rfl .nil))) (.cons rfl (.cons rfl (.cons rfl .nil))) ?_
  refine jn_seq (j_seq ?_)
  refine j_region ?_
  refine jg_adr _ rfl _ rfl rfl (op_ofield fld29_1 (.base rfl)) ?_
  refine jg_adr _ rfl _ rfl rfl (op_oload ty3 (.base rfl) rfl rfl ln29_1) ?_
  refine jg_adr _ rfl _ rfl rfl (op_ofield fld29_1 (.base rfl)) ?_
  refine jg_adr _ rfl _ rfl rfl (op_oload ty3 (.base rfl) rfl rfl ln29_1) ?_
  refine jg_adr _ rfl _ rfl rfl (op_xor (.base rfl) (.base rfl) rfl) ?_
  refine jg_adr _ rfl _ rfl rfl (op_assign (.base rfl)) ?_
  refine jg_nil ?_
  refine jn_keep [2, 3, 4, 6] [2, 3, 4] (.cons rfl (.cons rfl (.cons rfl (.cons rfl .nil)))) (.cons rfl (.cons rfl (.cons rfl .nil))) ?_
  refine jn_seq (j_seq (j_seq ?_))
  refine j_region ?_
  refine jg_adr _ rfl _ rfl rfl (op_ofield fld29_0 (.base rfl)) ?_
  refine jg_adr _ rfl _ rfl rfl (op_oload ty3 (.base rfl) rfl rfl ln29_0) ?_
  refine jg_adr _ rfl _ rfl rfl (op_ofield fld29_0 (.base rfl)) ?_
  refine jg_adr _ rfl _ rfl rfl (op_oload ty3 (.base rfl) rfl rfl ln29_0) ?_
  refine jg_adr _ rfl _ rfl rfl (op_neq (.base rfl) (.base rfl)) ?_
  refine jg_adr _ rfl _ rfl rfl (op_move (.base rfl)) ?_
  refine jg_gd _ _ _ _ _ _ rfl rfl rfl rfl rfl (fun hg => op_move (.base rfl)) ?_
  refine jg_gd _ _ _ _ _ _ rfl rfl rfl rfl rfl (fun hg => op_conv ⟨_, Try.underlying3⟩ Try.underlying39 (.gd rfl hg) (conv_u _)) ?_
  refine jg_gd _ _ _ _ _ _ rfl rfl rfl rfl rfl (fun hg => op_call (ones_ok _ (bv (xorI a.2 b.2)).isLt) (.cons (.gd rfl hg) .nil) rfl rfl) ?_
  refine jg_gd _ _ _ _ _ _ rfl rfl rfl rfl rfl (fun hg => op_neq (.gd rfl hg) (.base rfl)) ?_
  refine jg_adr _ rfl _ rfl rfl (op_pick_or (.base rfl) (.base rfl) rfl (by intro h; first | (rw [h]; rfl) | (rw [hg, h]; rfl) | (rw [h, hg]; rfl) | simp_all)) ?_
  refine jg_adr _ rfl _ rfl rfl (op_move (.base rfl)) ?_
  refine jg_gd _ _ _ _ _ _ rfl rfl rfl rfl rfl (fun hg => op_move (.base rfl)) ?_
  refine jg_gd _ _ _ _ _ _ rfl rfl rfl rfl rfl (fun hg => op_ofield fld29_0 (.base rfl)) ?_
  refine jg_gd _ _ _ _ _ _ rfl rfl rfl rfl rfl (fun hg => op_oload ty3 (.gd rfl hg) rfl rfl ln29_0) ?_
  refine jg_gd _ _ _ _ _ _ rfl rfl rfl rfl rfl (fun hg => op_and (.gd rfl hg) (.gd rfl hg) rfl) ?_
  refine jg_gd _ _ _ _ _ _ rfl rfl rfl rfl rfl (fun hg => op_eql (.gd rfl hg) (.base rfl)) ?_
  refine jg_adr _ rfl _ rfl rfl (op_pick_or (.base rfl) (.base rfl) rfl (by intro h; first | (rw [h]; rfl) | (rw [hg, h]; rfl) | (rw [h, hg]; rfl) | simp_all)) ?_
  refine jg_nil ?_
  refine jn_keep [2, 4, 6, 29] [2, 4] (.cons rfl (.cons rfl (.cons rfl (.cons rfl .nil)))) (.cons rfl (.cons rfl .nil)) ?_
  refine jn_seq ?_
  refine j_cond rfl (fun h2 => ?_) (fun h2 => ?_)
  · have h2 := orB h2
    simp only [bne_iff_ne, beq_iff_eq] at h2
    refine j_seq ?_
    refine j_region ?_
    refine jg_adr _ rfl _ rfl rfl (op_build z29 rfl pl29 .nil) ?_
    refine jg_os _ rfl (op_ostore ty29 (.base rfl) rfl rfl (Lens.id _) (.tv (.base rfl))) ?_
    refine jg_adr _ rfl _ rfl rfl (op_assign (.base rfl)) ?_
    refine jg_nil ?_
    refine jn_keep [4, 5] [4] (.cons rfl (.cons rfl .nil)) (.cons rfl .nil) ?_
    refine jn_seq (j_ret (jr_seq ?_))
    exact jr_fin2 Try.results12 (res_cell ty29 rfl rfl rfl (Lens.id rPattern)) (res_tmp rfl) ⟨rfl, rfl⟩ (svPB_eq (mergeF_t (by rcases h2 with h | h | h; exact .inl h; exact .inr (.inl (fun e => h (by unfold cntI at e; rw [e]; rfl))); exact .inr (.inr h))))
  · have h2 := orB' h2
    simp only [bne_eq_false_iff_eq, beq_eq_false_iff_ne] at h2
    refine j_skip (jn_seq (j_seq ?_))
    refine j_region ?_
    refine jg_adr _ rfl _ rfl rfl (op_ofield fld29_0 (.base rfl)) ?_
    refine jg_adr _ rfl _ rfl rfl (op_oload ty3 (.base rfl) rfl rfl ln29_0) ?_
    refine jg_adr _ rfl _ rfl rfl (op_move (.base rfl)) ?_
    refine jg_adr _ rfl _ rfl rfl (op_andNot (.base rfl) (.base rfl) rfl) ?_
    refine jg_adr _ rfl _ rfl rfl (op_ofield fld29_1 (.base rfl)) ?_
    refine jg_adr _ rfl _ rfl rfl (op_oload ty3 (.base rfl) rfl rfl ln29_1) ?_
    refine jg_adr _ rfl _ rfl rfl (op_move (.base rfl)) ?_
    refine jg_adr _ rfl _ rfl rfl (op_andNot (.base rfl) (.base rfl) rfl) ?_
    refine jg_adr _ rfl _ rfl rfl (op_build z29 rfl pl29 (.cons (rt' := (rInt .i64)) rfl ln29_0 (.raw (.base rfl) rfl) (.cons (rt' := (rInt .i64)) rfl ln29_1 (.raw (.base rfl) rfl) .nil))) ?_
    refine jg_os _ rfl (op_ostore ty29 (.base rfl) rfl rfl (Lens.id _) (.tv (.base rfl))) ?_
    refine jg_adr _ rfl _ rfl rfl (op_assign (.base rfl)) ?_
    refine jg_nil ?_
    refine jn_keep [4, 5] [4] (.cons rfl (.cons rfl .nil)) (.cons rfl .nil) ?_
    refine jn_seq (j_ret ?_)
    exact jr_fin2 Try.results12 (res_cell ty29 rfl rfl rfl (Lens.id rPattern)) (res_tmp rfl) ⟨rfl, rfl⟩ (svPB_eq (mergeF_f (by rintro (h | h | h); exact h h2.1; exact h (by have := h2.2.1; unfold cntI; omega); exact h2.2.2 h)))

theorem rmerge_ok (a b : TPattern) : Ct Try.prog 13 [.tv rPattern a, .tv rPattern b] (svPB (mergeF a b)) := by
  refine ct_intro Try.func13 rfl rfl Try.ntmps13 rfl rfl ?_
  intro w0 ok0
  refine j_seq ?_
  refine j_region ?_
  refine jg_os _ rfl (op_box (.tv (.base rfl)) rfl rfl rfl) ?_
  refine jg_os _ rfl (op_box (.tv (.base rfl)) rfl rfl rfl) ?_
  refine jg_os _ rfl (op_alloc _ z29 rfl rfl rfl) ?_
  refine jg_adr _ rfl _ rfl rfl (op_assign (.base rfl)) ?_
  refine jg_nil ?_
  refine jn_keep [2, 3, 4] [2, 3, 4] (.cons rfl (.cons rfl (.cons rfl .nil))) (.cons rfl (.cons rfl (.cons rfl .nil))) ?_
  refine jn_seq (j_seq ?_)
  refine j_region ?_
  refine jg_adr _ rfl _ rfl rfl (op_ofield fld29_1 (.base rfl)) ?_
  refine jg_adr _ rfl _ rfl rfl (op_oload ty3 (.base rfl) rfl rfl ln29_1) ?_
  refine jg_adr _ rfl _ rfl rfl (op_ofield fld29_1 (.base rfl)) ?_
  refine jg_adr _ rfl _ rfl rfl (op_oload ty3 (.base rfl) rfl rfl ln29_1) ?_
  refine jg_adr _ rfl _ rfl rfl (op_xor (.base rfl) (.base rfl) rfl) ?_
  refine jg_adr _ rfl _ rfl rfl (op_assign (.base rfl)) ?_
  refine jg_nil ?_
  refine jn_keep [2, 3, 4, 6] [2, 3, 4] (.cons rfl (.cons rfl (.cons rfl (.cons rfl .nil)))) (.cons rfl (.cons rfl (.cons rfl .nil))) ?_
  refine jn_seq (j_seq (j_seq ?_))
  refine j_region ?_
  refine jg_adr _ rfl _ rfl rfl (op_ofield fld29_0 (.base rfl)) ?_
  refine jg_adr _ rfl _ rfl rfl (op_oload ty3 (.base rfl) rfl rfl ln29_0) ?_
  refine jg_adr _ rfl _ rfl rfl (op_ofield fld29_0 (.base rfl)) ?_
  refine jg_adr _ rfl _ rfl rfl (op_oload ty3 (.base rfl) rfl rfl ln29_0) ?_
  refine jg_adr _ rfl _ rfl rfl (op_neq (.base rfl) (.base rfl)) ?_
  refine jg_adr _ rfl _ rfl rfl (op_move (.base rfl)) ?_
  refine jg_gd _ _ _ _ _ _ rfl rfl rfl rfl rfl (fun hg => op_move (.base rfl)) ?_
  refine jg_gd _ _ _ _ _ _ rfl rfl rfl rfl rfl (fun hg => op_call (power_ok _) (.cons (.gd rfl hg) .nil) rfl rfl) ?_
  refine jg_gd _ _ _ _ _ _ rfl rfl rfl rfl rfl (fun hg => op_not (.gd rfl hg)) ?_
  refine jg_adr _ rfl _ rfl rfl (op_pick_or (.base rfl) (.base rfl) rfl (by intro h; first | (rw [h]; rfl) | (rw [hg, h]; rfl) | (rw [h, hg]; rfl) | simp_all)) ?_
  refine jg_adr _ rfl _ rfl rfl (op_move (.base rfl)) ?_
  refine jg_gd _ _ _ _ _ _ rfl rfl rfl rfl rfl (fun hg => op_ofield fld29_0 (.base rfl)) ?_
  refine jg_gd _ _ _ _ _ _ rfl rfl rfl rfl rfl (fun hg => op_oload ty3 (.gd rfl hg) rfl rfl ln29_0) ?_
  refine jg_gd _ _ _ _ _ _ rfl rfl rfl rfl rfl (fun hg => op_move (.base rfl)) ?_
  refine jg_gd _ _ _ _ _ _ rfl rfl rfl rfl rfl (fun hg => op_and (.gd rfl hg) (.gd rfl hg) rfl) ?_
  refine jg_gd _ _ _ _ _ _ rfl rfl rfl rfl rfl (fun hg => op_move (.base rfl)) ?_
  refine jg_gd _ _ _ _ _ _ rfl rfl rfl rfl rfl (fun hg => op_neq (.gd rfl hg) (.gd rfl hg)) ?_
  refine jg_adr _ rfl _ rfl rfl (op_pick_or (.base rfl) (.base rfl) rfl (by intro h; first | (rw [h]; rfl) | (rw [hg, h]; rfl) | (rw [h, hg]; rfl) | simp_all)) ?_
  refine jg_nil ?_
  refine jn_keep [2, 4, 6, 29] [2, 4] (.cons rfl (.cons rfl (.cons rfl (.cons rfl .nil)))) (.cons rfl (.cons rfl .nil)) ?_
  refine jn_seq ?_
  refine j_cond rfl (fun h2 => ?_) (fun h2 => ?_)
  · have h2 := orB h2
    simp only [bne_iff_ne, Bool.not_eq_true'] at h2
    refine j_seq ?_
    refine j_region ?_
    refine jg_adr _ rfl _ rfl rfl (op_build z29 rfl pl29 .nil) ?_
    refine jg_os _ rfl (op_ostore ty29 (.base rfl) rfl rfl (Lens.id _) (.tv (.base rfl))) ?_
    refine jg_adr _ rfl _ rfl rfl (op_assign (.base rfl)) ?_
    refine jg_nil ?_
    refine jn_keep [4, 5] [4] (.cons rfl (.cons rfl .nil)) (.cons rfl .nil) ?_
    refine jn_seq (j_ret (jr_seq ?_))
    exact jr_fin2 Try.results13 (res_cell ty29 rfl rfl rfl (Lens.id rPattern)) (res_tmp rfl) ⟨rfl, rfl⟩ (svPB_eq (mergeF_t ((merge_ref a b).1 h2)))
  · have h2 := orB' h2
    simp only [bne_eq_false_iff_eq, Bool.not_eq_false'] at h2
    refine j_skip (jn_seq (j_seq ?_))
    refine j_region ?_
    refine jg_adr _ rfl _ rfl rfl (op_ofield fld29_0 (.base rfl)) ?_
    refine jg_adr _ rfl _ rfl rfl (op_oload ty3 (.base rfl) rfl rfl ln29_0) ?_
    refine jg_adr _ rfl _ rfl rfl (op_move (.base rfl)) ?_
    refine jg_adr _ rfl _ rfl rfl (op_andNot (.base rfl) (.base rfl) rfl) ?_
    refine jg_adr _ rfl _ rfl rfl (op_ofield fld29_1 (.base rfl)) ?_
    refine jg_adr _ rfl _ rfl rfl (op_oload ty3 (.base rfl) rfl rfl ln29_1) ?_
    refine jg_adr _ rfl _ rfl rfl (op_move (.base rfl)) ?_
    refine jg_adr _ rfl _ rfl rfl (op_andNot (.base rfl) (.base rfl) rfl) ?_
    refine jg_adr _ rfl _ rfl rfl (op_build z29 rfl pl29 (.cons (rt' := (rInt .i64)) rfl ln29_0 (.raw (.base rfl) rfl) (.cons (rt' := (rInt .i64)) rfl ln29_1 (.raw (.base rfl) rfl) .nil))) ?_
    refine jg_os _ rfl (op_ostore ty29 (.base rfl) rfl rfl (Lens.id _) (.tv (.base rfl))) ?_
    refine jg_adr _ rfl _ rfl rfl (op_assign (.base rfl)) ?_
    refine jg_nil ?_
    refine jn_keep [4, 5] [4] (.cons rfl (.cons rfl .nil)) (.cons rfl .nil) ?_
    refine jn_seq (j_ret ?_)
    exact jr_fin2 Try.results13 (res_cell ty29 rfl rfl rfl (Lens.id rPattern)) (res_tmp rfl) ⟨rfl, rfl⟩ (svPB_eq (mergeF_f (fun h => by rcases (merge_ref a b).2 h with h | h | h; exact h h2.1; rw [h2.2.1] at h; cases h; exact h h2.2.2)))

end Go.Proofs.Ytmdhmgngomlheaa
