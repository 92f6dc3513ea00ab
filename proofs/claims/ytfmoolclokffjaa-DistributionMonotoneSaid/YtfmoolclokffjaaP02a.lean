import Derived.Test.YtfmoolclokffjaaFacts
import Derived.Test.YtfmoolclokffjaaEng19
import Derived.Test.YtfmoolclokffjaaEng12
namespace Go.Proofs.Ytfmoolclokffjaa
open Go.Eng
set_option maxRecDepth 100000
set_option maxHeartbeats 4000000
set_option linter.unusedVariables false
set_option linter.unusedSimpArgs false


/-- is the magnitude rounded up? -/
def upM (q r d : Nat) (neg : Bool) (mode : Int) : Bool :=
  if r = 0 then false else if mode = 0 then neg else if mode = 1 then !neg else if mode = 3 then true else if mode = 4 then decide (d - r ≤ r)
  else if mode = 5 then decide (d - r < r) || (decide (r = d - r) && decide (q % 2 = 1)) else false
def rndM (q r d : Nat) (neg : Bool) (mode : Int) : Nat := if upM q r d neg mode = true then q + 1 else q
def sgn (q : Nat) (neg : Bool) : Int := if neg = true then -(q : Int) else (q : Int)
def modeOk (mode : Int) : Bool := decide (0 ≤ mode) && decide (mode ≤ 5)
def byd (n limit : Int) : Bool := decide (limit < n) || decide (n < -limit)
theorem rndM_le (q r d : Nat) (neg : Bool) (mode : Int) : rndM q r d neg mode ≤ q + 1 ∧ q ≤ rndM q r d neg mode := by unfold rndM; split <;> omega
theorem mag_neg {n : Int} (h : n < 0) (h1 : -9223372036854775808 ≤ n) : IntKind.u64.wrap (-(IntKind.u64.wrap n)) = ((n.natAbs : Nat) : Int) := by
  rw [IntKind.wrap_u64, IntKind.wrap_u64]; omega
theorem mag_pos {n : Int} (h : ¬ n < 0) (h1 : n ≤ 9223372036854775807) : IntKind.u64.wrap n = ((n.natAbs : Nat) : Int) := by
  rw [IntKind.wrap_u64]; omega
theorem up_a {neg : Bool} {r : Nat} (h : 0 < r) : (neg && decide ((r : Int) > 0)) = neg := by
  rw [decide_eq_true (by omega)]; cases neg <;> rfl
theorem up_b {neg : Bool} {r : Nat} (h : 0 < r) : (!neg && decide ((r : Int) > 0)) = !neg := by
  rw [decide_eq_true (by omega)]; cases neg <;> rfl
theorem up_c {r d : Nat} (h : r < d) : decide ((r : Int) ≥ (d : Int) - (r : Int)) = decide (d - r ≤ r) := by
  rw [Bool.eq_iff_iff]; simp; omega
theorem up_d {q r d : Nat} (h : r < d) : (decide ((r : Int) > (d : Int) - (r : Int)) || ((r : Int) == (d : Int) - (r : Int)) && (((q % 2 : Nat) : Int) == 1)) = (decide (d - r < r) || (decide (r = d - r) && decide (q % 2 = 1))) := by
  rw [Bool.eq_iff_iff]; simp; omega
theorem ofN {a b : Nat} : ((a : Int) == (b : Int)) = (a == b) := by rw [Bool.eq_iff_iff]; simp; omega

theorem beyond_ok (n limit : Int) (h : 0 ≤ limit ∧ limit ≤ 9223372036854775807) : Ct Try.prog 37 [.raw (.int .i64 n), .raw (.int .i64 limit)] (.raw (.bool (byd n limit))) := by
  refine ct_intro Try.func37 rfl rfl Try.ntmps37 rfl rfl ?_
  intro w0 ok0
  refine j_seq ?_
  refine j_region ?_
  refine jg_adr _ rfl _ rfl rfl (op_assign (.base rfl)) ?_
  refine jg_nil ?_
  refine jn_keep [0, 1] [] (.cons rfl (.cons rfl .nil)) .nil ?_
  refine jn_seq (j_seq ?_)
  refine j_region ?_
  refine jg_adr _ rfl _ rfl rfl (op_move (.base rfl)) ?_
  refine jg_adr _ rfl _ rfl rfl (op_move (.base rfl)) ?_
  refine jg_adr _ rfl _ rfl rfl (op_gtr (.base rfl) (.base rfl)) ?_
  refine jg_adr _ rfl _ rfl rfl (op_move (.base rfl)) ?_
  refine jg_gd _ _ _ _ _ _ rfl rfl rfl rfl rfl (fun hg => op_move (.base rfl)) ?_
  refine jg_gd _ _ _ _ _ _ rfl rfl rfl rfl rfl (fun hg => op_move (.base rfl)) ?_
  refine jg_gd _ _ _ _ _ _ rfl rfl rfl rfl rfl (fun hg => op_neg (.gd rfl hg) (w64 (by omega))) ?_
  refine jg_gd _ _ _ _ _ _ rfl rfl rfl rfl rfl (fun hg => op_lss (.gd rfl hg) (.gd rfl hg)) ?_
  refine jg_adr _ rfl _ rfl rfl (op_pick_or (.base rfl) (.base rfl) rfl (by intro h; first | (rw [h]; rfl) | (rw [hg, h]; rfl) | (rw [h, hg]; rfl) | simp_all)) ?_
  refine jg_adr _ rfl _ rfl rfl (op_assign (.base rfl)) ?_
  refine jg_nil ?_
  refine jn_keep [4] [] (.cons rfl .nil) .nil ?_
  refine jn_seq (j_ret ?_)
  exact jr_fin1 Try.results37 (res_tmp rfl) rfl (rb (by simp [byd]))

theorem rbeyond_ok (n limit : Int) (h : 0 ≤ limit ∧ limit ≤ 9223372036854775807) : Ct Try.prog 36 [.raw (.int .i64 n), .raw (.int .i64 limit)] (.raw (.bool (byd n limit))) := by
  refine ct_intro Try.func36 rfl rfl Try.ntmps36 rfl rfl ?_
  intro w0 ok0
  refine j_seq ?_
  refine j_region ?_
  refine jg_adr _ rfl _ rfl rfl (op_assign (.base rfl)) ?_
  refine jg_nil ?_
  refine jn_keep [0, 1] [] (.cons rfl (.cons rfl .nil)) .nil ?_
  refine jn_seq (j_seq ?_)
  refine j_region ?_
  refine jg_adr _ rfl _ rfl rfl (op_move (.base rfl)) ?_
  refine jg_adr _ rfl _ rfl rfl (op_move (.base rfl)) ?_
  refine jg_adr _ rfl _ rfl rfl (op_gtr (.base rfl) (.base rfl)) ?_
  refine jg_adr _ rfl _ rfl rfl (op_move (.base rfl)) ?_
  refine jg_gd _ _ _ _ _ _ rfl rfl rfl rfl rfl (fun hg => op_move (.base rfl)) ?_
  refine jg_gd _ _ _ _ _ _ rfl rfl rfl rfl rfl (fun hg => op_move (.base rfl)) ?_
  refine jg_gd _ _ _ _ _ _ rfl rfl rfl rfl rfl (fun hg => op_neg (.gd rfl hg) (w64 (by omega))) ?_
  refine jg_gd _ _ _ _ _ _ rfl rfl rfl rfl rfl (fun hg => op_lss (.gd rfl hg) (.gd rfl hg)) ?_
  refine jg_adr _ rfl _ rfl rfl (op_pick_or (.base rfl) (.base rfl) rfl (by intro h; first | (rw [h]; rfl) | (rw [hg, h]; rfl) | (rw [h, hg]; rfl) | simp_all)) ?_
  refine jg_adr _ rfl _ rfl rfl (op_assign (.base rfl)) ?_
  refine jg_nil ?_
  refine jn_keep [4] [] (.cons rfl .nil) .nil ?_
  refine jn_seq (j_ret ?_)
  exact jr_fin1 Try.results36 (res_tmp rfl) rfl (rb (by simp [byd]))

theorem magnitude_ok (n : Int) (h : -9223372036854775808 ≤ n ∧ n ≤ 9223372036854775807) : Ct Try.prog 38 [.raw (.int .i64 n)] (.raw (.int .u64 (n.natAbs : Nat))) := by
  refine ct_intro Try.func38 rfl rfl Try.ntmps38 rfl rfl ?_
  intro w0 ok0
  refine j_seq ?_
  refine j_region ?_
  refine jg_adr _ rfl _ rfl rfl (op_assign (.base rfl)) ?_
  refine jg_nil ?_
  refine jn_keep [0] [] (.cons rfl .nil) .nil ?_
  refine jn_seq (j_seq (j_seq ?_))
  refine j_region ?_
  refine jg_adr _ rfl _ rfl rfl (op_move (.base rfl)) ?_
  refine jg_adr _ rfl _ rfl rfl (op_lss (.base rfl) (.base rfl)) ?_
  refine jg_nil ?_
  refine jn_keep [0, 4] [] (.cons rfl (.cons rfl .nil)) .nil ?_
  refine jn_seq ?_
  refine j_cond rfl (fun h1 => ?_) (fun h1 => ?_)
  · try simp at h1
    refine j_seq ?_
    refine j_region ?_
    refine jg_adr _ rfl _ rfl rfl (op_move (.base rfl)) ?_
    refine jg_adr _ rfl _ rfl rfl (op_conv ⟨_, Try.underlying3⟩ Try.underlying57 (.base rfl) rfl) ?_
    refine jg_adr _ rfl _ rfl rfl ((op_neg (.base rfl) (mag_neg h1 h.1))) ?_
    refine jg_adr _ rfl _ rfl rfl (op_assign (.base rfl)) ?_
    refine jg_nil ?_
    refine jn_keep [2] [] (.cons rfl .nil) .nil ?_
    refine jn_seq (j_ret (jr_seq ?_))
    exact jr_fin1 Try.results38 (res_tmp rfl) rfl rfl
  · try simp at h1
    refine j_skip (jn_seq (j_seq ?_))
    refine j_region ?_
    refine jg_adr _ rfl _ rfl rfl (op_move (.base rfl)) ?_
    refine jg_adr _ rfl _ rfl rfl (op_conv ⟨_, Try.underlying3⟩ Try.underlying57 (.base rfl) (mag_pos (by omega) h.2)) ?_
    refine jg_adr _ rfl _ rfl rfl (op_assign (.base rfl)) ?_
    refine jg_nil ?_
    refine jn_keep [2] [] (.cons rfl .nil) .nil ?_
    refine jn_seq (j_ret ?_)
    exact jr_fin1 Try.results38 (res_tmp rfl) rfl rfl

theorem rabs_ok (n : Int) (h : -9223372036854775808 < n ∧ n ≤ 9223372036854775807) : Ct Try.prog 43 [.raw (.int .i64 n)] (.raw (.int .i64 (n.natAbs : Nat))) := by
  refine ct_intro Try.func43 rfl rfl Try.ntmps43 rfl rfl ?_
  intro w0 ok0
  refine j_seq ?_
  refine j_region ?_
  refine jg_adr _ rfl _ rfl rfl (op_assign (.base rfl)) ?_
  refine jg_nil ?_
  refine jn_keep [0] [] (.cons rfl .nil) .nil ?_
  refine jn_seq (j_seq (j_seq ?_))
  refine j_region ?_
  refine jg_adr _ rfl _ rfl rfl (op_move (.base rfl)) ?_
  refine jg_adr _ rfl _ rfl rfl (op_lss (.base rfl) (.base rfl)) ?_
  refine jg_nil ?_
  refine jn_keep [0, 4] [] (.cons rfl (.cons rfl .nil)) .nil ?_
  refine jn_seq ?_
  refine j_cond rfl (fun h1 => ?_) (fun h1 => ?_)
  · try simp at h1
    refine j_seq ?_
    refine j_region ?_
    refine jg_adr _ rfl _ rfl rfl (op_move (.base rfl)) ?_
    refine jg_adr _ rfl _ rfl rfl (op_neg (.base rfl) (w64 (by omega))) ?_
    refine jg_adr _ rfl _ rfl rfl (op_assign (.base rfl)) ?_
    refine jg_nil ?_
    refine jn_keep [2] [] (.cons rfl .nil) .nil ?_
    refine jn_seq (j_ret (jr_seq ?_))
    exact jr_fin1 Try.results43 (res_tmp rfl) rfl (ri (by omega))
  · try simp at h1
    refine j_skip (jn_seq (j_seq ?_))
    refine j_region ?_
    refine jg_adr _ rfl _ rfl rfl (op_move (.base rfl)) ?_
    refine jg_adr _ rfl _ rfl rfl (op_assign (.base rfl)) ?_
    refine jg_nil ?_
    refine jn_keep [2] [] (.cons rfl .nil) .nil ?_
    refine jn_seq (j_ret ?_)
    exact jr_fin1 Try.results43 (res_tmp rfl) rfl (ri (by omega))



end Go.Proofs.Ytfmoolclokffjaa
