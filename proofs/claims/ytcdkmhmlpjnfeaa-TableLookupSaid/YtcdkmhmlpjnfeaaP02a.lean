import Derived.Test.YtcdkmhmlpjnfeaaFacts
import Derived.Test.YtcdkmhmlpjnfeaaEng19
import Derived.Test.YtcdkmhmlpjnfeaaEng12
namespace Go.Proofs.Ytcdkmhmlpjnfeaa
open Go.Eng
set_option maxRecDepth 100000
set_option maxHeartbeats 4000000
set_option linter.unusedVariables false
set_option linter.unusedSimpArgs false


/-- is the magnitude rounded up? -/
def upM (q r d : Nat) (neg : Bool) (mode : Int) : Bool :=
  if r = 0 then false else if mode = 0 then neg else if mode = 1 then !neg else if mode = 3 then true else if mode = 4 then decide (d - r ≤ r)
  else if mode = 5 then decide (d - r < r) || (decide (r = d - r) && decide (q % 2 = 1)) else false
def rndM (q r d : Nat) (neg : Bool) (mode : Int) : Nat := if upM q r d neg mode = true then q + 1 else q
def sgn (q : Nat) (neg : Bool) : Int := if neg = true then -(q : Int) else (q : Int)
def modeOk (mode : Int) : Bool := decide (0 ≤ mode) && decide (mode ≤ 5)
def byd (n limit : Int) : Bool := decide (limit < n) || decide (n < -limit)
theorem rndM_le (q r d : Nat) (neg : Bool) (mode : Int) : rndM q r d neg mode ≤ q + 1 ∧ q ≤ rndM q r d neg mode := by unfold rndM; split <;> omega
theorem mag_neg {n : Int} (h : n < 0) (h1 : -9223372036854775808 ≤ n) : IntKind.u64.wrap (-(IntKind.u64.wrap n)) = ((n.natAbs : Nat) : Int) := by
  rw [IntKind.wrap_u64, IntKind.wrap_u64]; omega
theorem mag_pos {n : Int} (h : ¬ n < 0) (h1 : n ≤ 9223372036854775807) : IntKind.u64.wrap n = ((n.natAbs : Nat) : Int) := by
  rw [IntKind.wrap_u64]; omega
theorem up_a {neg : Bool} {r : Nat} (h : 0 < r) : (neg && decide ((r : Int) > 0)) = neg := by
  rw [decide_eq_true (by omega)]; cases neg <;> rfl
theorem up_b {neg : Bool} {r : Nat} (h : 0 < r) : (!neg && decide ((r : Int) > 0)) = !neg := by
  rw [decide_eq_true (by omega)]; cases neg <;> rfl
theorem up_c {r d : Nat} (h : r < d) : decide ((r : Int) ≥ (d : Int) - (r : Int)) = decide (d - r ≤ r) := by
  rw [Bool.eq_iff_iff]; simp; omega
theorem up_d {q r d : Nat} (h : r < d) : (decide ((r : Int) > (d : Int) - (r : Int)) || ((r : Int) == (d : Int) - (r : Int)) && (((q % 2 : Nat) : Int) == 1)) = (decide (d - r < r) || (decide (r = d - r) && decide (q % 2 = 1))) := by
  rw [Bool.eq_iff_iff]; simp; omega
theorem ofN {a b : Nat} : ((a : Int) == (b : Int)) = (a == b) := by rw [Bool.eq_iff_iff]; simp; omega

theorem validModeM_ok (mode : Int) : Ct Try.prog 54 [.raw (.int .i64 mode)] (.raw (.bool (modeOk mode))) := by
  refine ct_intro Try.func54 rfl rfl Try.ntmps54 rfl rfl ?_
  intro w0 ok0
  refine j_seq ?_
  refine j_region ?_
  refine jg_adr _ rfl _ rfl rfl (op_assign (.base rfl)) ?_
  refine jg_nil ?_
  refine jn_keep [0] [] (.cons rfl .nil) .nil ?_
  refine jn_seq (j_seq ?_)
  refine j_region ?_
  refine jg_adr _ rfl _ rfl rfl (op_move (.base rfl)) ?_
  refine jg_adr _ rfl _ rfl rfl (op_geq (.base rfl) (.base rfl)) ?_
  refine jg_adr _ rfl _ rfl rfl (op_move (.base rfl)) ?_
  refine jg_gd _ _ _ _ _ _ rfl rfl rfl rfl rfl (fun hg => op_move (.base rfl)) ?_
  refine jg_gd _ _ _ _ _ _ rfl rfl rfl rfl rfl (fun hg => op_leq (.gd rfl hg) (.base rfl)) ?_
  refine jg_adr _ rfl _ rfl rfl (op_pick_and (.base rfl) (.base rfl) rfl (by intro h; first | (rw [h]; rfl) | (rw [hg, h]; rfl) | (rw [h, hg]; rfl) | simp_all)) ?_
  refine jg_adr _ rfl _ rfl rfl (op_assign (.base rfl)) ?_
  refine jg_nil ?_
  refine jn_keep [2] [] (.cons rfl .nil) .nil ?_
  refine jn_seq (j_ret ?_)
  exact jr_fin1 Try.results54 (res_tmp rfl) rfl (rb (by simp [modeOk]))

theorem rmode_ok (mode : Int) : Ct Try.prog 50 [.raw (.int .i64 mode)] (.raw (.bool (modeOk mode))) := by
  refine ct_intro Try.func50 rfl rfl Try.ntmps50 rfl rfl ?_
  intro w0 ok0
  refine j_seq ?_
  refine j_region ?_
  refine jg_adr _ rfl _ rfl rfl (op_assign (.base rfl)) ?_
  refine jg_nil ?_
  refine jn_keep [0] [] (.cons rfl .nil) .nil ?_
  refine jn_seq (j_seq ?_)
  refine j_region ?_
  refine jg_adr _ rfl _ rfl rfl (op_move (.base rfl)) ?_
  refine jg_adr _ rfl _ rfl rfl (op_geq (.base rfl) (.base rfl)) ?_
  refine jg_adr _ rfl _ rfl rfl (op_move (.base rfl)) ?_
  refine jg_gd _ _ _ _ _ _ rfl rfl rfl rfl rfl (fun hg => op_move (.base rfl)) ?_
  refine jg_gd _ _ _ _ _ _ rfl rfl rfl rfl rfl (fun hg => op_leq (.gd rfl hg) (.base rfl)) ?_
  refine jg_adr _ rfl _ rfl rfl (op_pick_and (.base rfl) (.base rfl) rfl (by intro h; first | (rw [h]; rfl) | (rw [hg, h]; rfl) | (rw [h, hg]; rfl) | simp_all)) ?_
  refine jg_adr _ rfl _ rfl rfl (op_assign (.base rfl)) ?_
  refine jg_nil ?_
  refine jn_keep [2] [] (.cons rfl .nil) .nil ?_
  refine jn_seq (j_ret ?_)
  exact jr_fin1 Try.results50 (res_tmp rfl) rfl (rb (by simp [modeOk]))

theorem beyond_ok (n limit : Int) (h : 0 ≤ limit ∧ limit ≤ 9223372036854775807) : Ct Try.prog 55 [.raw (.int .i64 n), .raw (.int .i64 limit)] (.raw (.bool (byd n limit))) := by
  refine ct_intro Try.func55 rfl rfl Try.ntmps55 rfl rfl ?_
  intro w0 ok0
  refine j_seq ?_
  refine j_region ?_
  refine jg_adr _ rfl _ rfl rfl (op_assign (.base rfl)) ?_
  refine jg_nil ?_
  refine jn_keep [0, 1] [] (.cons rfl (.cons rfl .nil)) .nil ?_
  refine jn_seq (j_seq ?_)
  refine j_region ?_
  refine jg_adr _ rfl _ rfl rfl (op_move (.base rfl)) ?_
  refine jg_adr _ rfl _ rfl rfl (op_move (.base rfl)) ?_
  refine jg_adr _ rfl _ rfl rfl (op_gtr (.base rfl) (.base rfl)) ?_
  refine jg_adr _ rfl _ rfl rfl (op_move (.base rfl)) ?_
  refine jg_gd _ _ _ _ _ _ rfl rfl rfl rfl rfl (fun hg => op_move (.base rfl)) ?_
  refine jg_gd _ _ _ _ _ _ rfl rfl rfl rfl rfl (fun hg => op_move (.base rfl)) ?_
  refine jg_gd _ _ _ _ _ _ rfl rfl rfl rfl rfl (fun hg => op_neg (.gd rfl hg) (w64 (by omega))) ?_
  refine jg_gd _ _ _ _ _ _ rfl rfl rfl rfl rfl (fun hg => op_lss (.gd rfl hg) (.gd rfl hg)) ?_
  refine jg_adr _ rfl _ rfl rfl (op_pick_or (.base rfl) (.base rfl) rfl (by intro h; first | (rw [h]; rfl) | (rw [hg, h]; rfl) | (rw [h, hg]; rfl) | simp_all)) ?_
  refine jg_adr _ rfl _ rfl rfl (op_assign (.base rfl)) ?_
  refine jg_nil ?_
  refine jn_keep [4] [] (.cons rfl .nil) .nil ?_
  refine jn_seq (j_ret ?_)
  exact jr_fin1 Try.results55 (res_tmp rfl) rfl (rb (by simp [byd]))

theorem rbeyond_ok (n limit : Int) (h : 0 ≤ limit ∧ limit ≤ 9223372036854775807) : Ct Try.prog 51 [.raw (.int .i64 n), .raw (.int .i64 limit)] (.raw (.bool (byd n limit))) := by
  refine ct_intro Try.func51 rfl rfl Try.ntmps51 rfl rfl ?_
  intro w0 ok0
  refine j_seq ?_
  refine j_region ?_
  refine jg_adr _ rfl _ rfl rfl (op_assign (.base rfl)) ?_
  refine jg_nil ?_
  refine jn_keep [0, 1] [] (.cons rfl (.cons rfl .nil)) .nil ?_
  refine jn_seq (j_seq ?_)
  refine j_region ?_
  refine jg_adr _ rfl _ rfl rfl (op_move (.base rfl)) ?_
  refine jg_adr _ rfl _ rfl rfl (op_move (.base rfl)) ?_
  refine jg_adr _ rfl _ rfl rfl (op_gtr (.base rfl) (.base rfl)) ?_
  refine jg_adr _ rfl _ rfl rfl (op_move (.base rfl)) ?_
  refine jg_gd _ _ _ _ _ _ rfl rfl rfl rfl rfl (fun hg => op_move (.base rfl)) ?_
  refine jg_gd _ _ _ _ _ _ rfl rfl rfl rfl rfl (fun hg => op_move (.base rfl)) ?_
  refine jg_gd _ _ _ _ _ _ rfl rfl rfl rfl rfl (fun hg => op_neg (.gd rfl hg) (w64 (by omega))) ?_
  refine jg_gd _ _ _ _ _ _ rfl rfl rfl rfl rfl (fun hg => op_lss (.gd rfl hg) (.gd rfl hg)) ?_
  refine jg_adr _ rfl _ rfl rfl (op_pick_or (.base rfl) (.base rfl) rfl (by intro h; first | (rw [h]; rfl) | (rw [hg, h]; rfl) | (rw [h, hg]; rfl) | simp_all)) ?_
  refine jg_adr _ rfl _ rfl rfl (op_assign (.base rfl)) ?_
  refine jg_nil ?_
  refine jn_keep [4] [] (.cons rfl .nil) .nil ?_
  refine jn_seq (j_ret ?_)
  exact jr_fin1 Try.results51 (res_tmp rfl) rfl (rb (by simp [byd]))

theorem magnitude_ok (n : Int) (h : -9223372036854775808 ≤ n ∧ n ≤ 9223372036854775807) : Ct Try.prog 57 [.raw (.int .i64 n)] (.raw (.int .u64 (n.natAbs : Nat))) := by
  refine ct_intro Try.func57 rfl rfl Try.ntmps57 rfl rfl ?_
  intro w0 ok0
  refine j_seq ?_
  refine j_region ?_
  refine jg_adr _ rfl _ rfl rfl (op_assign (.base rfl)) ?_
  refine jg_nil ?_
  refine jn_keep [0] [] (.cons rfl .nil) .nil ?_
  refine jn_seq (j_seq (j_seq ?_))
  refine j_region ?_
  refine jg_adr _ rfl _ rfl rfl (op_move (.base rfl)) ?_
  refine jg_adr _ rfl _ rfl rfl (op_lss (.base rfl) (.base rfl)) ?_
  refine jg_nil ?_
  refine jn_keep [0, 4] [] (.cons rfl (.cons rfl .nil)) .nil ?_
  refine jn_seq ?_
  refine j_cond rfl (fun h1 => ?_) (fun h1 => ?_)
  · try simp at h1
    refine j_seq ?_
    refine j_region ?_
    refine jg_adr _ rfl _ rfl rfl (op_move (.base rfl)) ?_
    refine jg_adr _ rfl _ rfl rfl (op_conv ⟨_, Try.underlying3⟩ Try.underlying78 (.base rfl) rfl) ?_
    refine jg_adr _ rfl _ rfl rfl ((op_neg (.base rfl) (mag_neg h1 h.1))) ?_
    refine jg_adr _ rfl _ rfl rfl (op_assign (.base rfl)) ?_
    refine jg_nil ?_
    refine jn_keep [2] [] (.cons rfl .nil) .nil ?_
    refine jn_seq (j_ret (jr_seq ?_))
    exact jr_fin1 Try.results57 (res_tmp rfl) rfl rfl
  · try simp at h1
    refine j_skip (jn_seq (j_seq ?_))
    refine j_region ?_
    refine jg_adr _ rfl _ rfl rfl (op_move (.base rfl)) ?_
    refine jg_adr _ rfl _ rfl rfl (op_conv ⟨_, Try.underlying3⟩ Try.underlying78 (.base rfl) (mag_pos (by omega) h.2)) ?_
    refine jg_adr _ rfl _ rfl rfl (op_assign (.base rfl)) ?_
    refine jg_nil ?_
    refine jn_keep [2] [] (.cons rfl .nil) .nil ?_
    refine jn_seq (j_ret ?_)
    exact jr_fin1 Try.results57 (res_tmp rfl) rfl rfl

theorem signedM_ok (q : Nat) (neg : Bool) (h : q ≤ 9223372036854775807) : Ct Try.prog 60 [.raw (.int .u64 (q : Nat)), .raw (.bool neg)] (.raw (.int .i64 (sgn q neg))) := by
  refine ct_intro Try.func60 rfl rfl Try.ntmps60 rfl rfl ?_
  intro w0 ok0
  refine j_seq ?_
  refine j_region ?_
  refine jg_adr _ rfl _ rfl rfl (op_assign (.base rfl)) ?_
  refine jg_nil ?_
  refine jn_keep [0, 1] [] (.cons rfl (.cons rfl .nil)) .nil ?_
  refine jn_seq (j_seq (j_seq ?_))
  refine j_region ?_
  refine jg_adr _ rfl _ rfl rfl (op_move (.base rfl)) ?_
  refine jg_nil ?_
  refine jn_keep [0, 5] [] (.cons rfl (.cons rfl .nil)) .nil ?_
  refine jn_seq ?_
  refine j_cond rfl (fun h1 => ?_) (fun h1 => ?_)
  · try simp at h1
    refine j_seq ?_
    refine j_region ?_
    refine jg_adr _ rfl _ rfl rfl (op_move (.base rfl)) ?_
    refine jg_adr _ rfl _ rfl rfl (op_conv ⟨_, Try.underlying78⟩ Try.underlying3 (.base rfl) (w64 (by omega))) ?_
    refine jg_adr _ rfl _ rfl rfl ((op_neg (.base rfl) (w64 (by omega)))) ?_
    refine jg_adr _ rfl _ rfl rfl (op_assign (.base rfl)) ?_
    refine jg_nil ?_
    refine jn_keep [4] [] (.cons rfl .nil) .nil ?_
    refine jn_seq (j_ret (jr_seq ?_))
    exact jr_fin1 Try.results60 (res_tmp rfl) rfl (ri (by unfold sgn; rw [if_pos h1]))
  · try simp at h1
    refine j_skip (jn_seq (j_seq ?_))
    refine j_region ?_
    refine jg_adr _ rfl _ rfl rfl (op_move (.base rfl)) ?_
    refine jg_adr _ rfl _ rfl rfl (op_conv ⟨_, Try.underlying78⟩ Try.underlying3 (.base rfl) (w64 (by omega))) ?_
    refine jg_adr _ rfl _ rfl rfl (op_assign (.base rfl)) ?_
    refine jg_nil ?_
    refine jn_keep [4] [] (.cons rfl .nil) .nil ?_
    refine jn_seq (j_ret ?_)
    exact jr_fin1 Try.results60 (res_tmp rfl) rfl (ri (by unfold sgn; rw [if_neg (by simp [h1])]))

theorem roundMag_ok (q r d : Nat) (neg : Bool) (mode : Int) (hr : r < d) (hd : d ≤ 9223372036854775808) (hq : q ≤ 9223372036854775807) : Ct Try.prog 59 [.raw (.int .u64 (q : Nat)), .raw (.int .u64 (r : Nat)), .raw (.int .u64 (d : Nat)), .raw (.bool neg), .raw (.int .i64 mode)] (.raw (.int .u64 (rndM q r d neg mode : Nat))) := by
  refine ct_intro Try.func59 rfl rfl Try.ntmps59 rfl rfl ?_
  intro w0 ok0
  refine j_seq ?_
  refine j_region ?_
  refine jg_adr _ rfl _ rfl rfl (op_assign (.base rfl)) ?_
  refine jg_nil ?_
  refine jn_keep [0, 1, 2, 3, 4] [] (.cons rfl (.cons rfl (.cons rfl (.cons rfl (.cons rfl .nil))))) .nil ?_
  refine jn_seq (j_seq (j_seq ?_))
  refine j_region ?_
  refine jg_adr _ rfl _ rfl rfl (op_move (.base rfl)) ?_
  refine jg_adr _ rfl _ rfl rfl (op_eql (.base rfl) (.base rfl)) ?_
  refine jg_nil ?_
  refine jn_keep [0, 1, 2, 3, 4, 13] [] (.cons rfl (.cons rfl (.cons rfl (.cons rfl (.cons rfl (.cons rfl .nil)))))) .nil ?_
  refine jn_seq ?_
  refine j_cond rfl (fun h1 => ?_) (fun h1 => ?_)
  · try simp at h1
    refine j_seq ?_
    refine j_region ?_
    refine jg_adr _ rfl _ rfl rfl (op_move (.base rfl)) ?_
    refine jg_adr _ rfl _ rfl rfl (op_assign (.base rfl)) ?_
    refine jg_nil ?_
    refine jn_keep [10] [] (.cons rfl .nil) .nil ?_
    refine jn_seq (j_ret (jr_seq ?_))
    exact jr_fin1 Try.results59 (res_tmp rfl) rfl (ri (by unfold rndM upM; rw [if_neg (by rw [if_pos (by omega)]; simp)]))
  · try simp at h1
    refine j_skip (jn_seq (j_seq ?_))
    refine j_region ?_
    refine jg_adr _ rfl _ rfl rfl (op_assign (.base rfl)) ?_
    refine jg_nil ?_
    refine jn_keep [0, 1, 2, 3, 4, 11] [] (.cons rfl (.cons rfl (.cons rfl (.cons rfl (.cons rfl (.cons rfl .nil)))))) .nil ?_
    refine jn_seq (j_seq (j_seq ?_))
    refine j_region ?_
    refine jg_adr _ rfl _ rfl rfl (op_move (.base rfl)) ?_
    refine jg_nil ?_
    refine jn_keep [0, 1, 2, 3, 11, 15] [] (.cons rfl (.cons rfl (.cons rfl (.cons rfl (.cons rfl (.cons rfl .nil)))))) .nil ?_
    refine jn_seq ?_
    refine j_cut (ι := Unit) (fun _ => ⟨[(0, .raw (.int .u64 (q : Nat))), (11, .raw (.bool (upM q r d neg mode)))], []⟩) (fun _ => True) ?_ ?_
    · skip
      refine j_block (j_seq ?_)
      refine j_region ?_
      refine jg_adr _ rfl _ rfl rfl (op_eql (.base rfl) (.base rfl)) ?_
      refine jg_adr _ rfl _ rfl rfl (op_assign (.base rfl)) ?_
      refine jg_nil ?_
      refine jn_keep [0, 1, 2, 3, 11, 15, 16] [] (.cons rfl (.cons rfl (.cons rfl (.cons rfl (.cons rfl (.cons rfl (.cons rfl .nil))))))) .nil ?_
      refine jn_seq ?_
      refine j_cond rfl (fun h5 => ?_) (fun h5 => ?_)
      · try simp at h5
        refine j_region ?_
        refine jg_adr _ rfl _ rfl rfl (op_move (.base rfl)) ?_
        refine jg_adr _ rfl _ rfl rfl (op_assign (.base rfl)) ?_
        refine jg_nil ?_
        refine jn_keep [0, 11] [] (.cons rfl (.cons rfl .nil)) .nil ?_
        refine jn_blk ?_
        exact jn_loop (fun a w hi => ⟨(), trivial, Sub.inv ⟨(by repeat (first | exact SubS_nil | refine SubS_cons rfl (by first | rfl | (refine rb ?_; unfold upM; (repeat' first | rw [if_pos (by omega)] | rw [if_neg (by omega)]); all_goals first | rfl | (exact up_a (by omega)) | (exact up_b (by omega)) | (exact up_c (by omega)) | (exact up_d (by omega)) | (rw [Bool.eq_iff_iff]; simp; omega) | (rw [Bool.eq_iff_iff]; simp; done) | (simp; done))) ?_)), (by repeat (first | exact SubH_nil | refine SubH_cons rfl (by first | rfl | (simp; done) | assumption) ?_))⟩ hi⟩)
      · try simp at h5
        refine j_seq ?_
        refine j_region ?_
        refine jg_adr _ rfl _ rfl rfl (op_eql (.base rfl) (.base rfl)) ?_
        refine jg_adr _ rfl _ rfl rfl (op_assign (.base rfl)) ?_
        refine jg_nil ?_
        refine jn_keep [0, 1, 2, 3, 11, 15, 19] [] (.cons rfl (.cons rfl (.cons rfl (.cons rfl (.cons rfl (.cons rfl (.cons rfl .nil))))))) .nil ?_
        refine jn_seq ?_
        refine j_cond rfl (fun h7 => ?_) (fun h7 => ?_)
        · try simp at h7
          refine j_region ?_
          refine jg_adr _ rfl _ rfl rfl (op_move (.base rfl)) ?_
          refine jg_adr _ rfl _ rfl rfl (op_not (.base rfl)) ?_
          refine jg_adr _ rfl _ rfl rfl (op_assign (.base rfl)) ?_
          refine jg_nil ?_
          refine jn_keep [0, 11] [] (.cons rfl (.cons rfl .nil)) .nil ?_
          refine jn_blk ?_
          exact jn_loop (fun a w hi => ⟨(), trivial, Sub.inv ⟨(by repeat (first | exact SubS_nil | refine SubS_cons rfl (by first | rfl | (refine rb ?_; unfold upM; (repeat' first | rw [if_pos (by omega)] | rw [if_neg (by omega)]); all_goals first | rfl | (exact up_a (by omega)) | (exact up_b (by omega)) | (exact up_c (by omega)) | (exact up_d (by omega)) | (rw [Bool.eq_iff_iff]; simp; omega) | (rw [Bool.eq_iff_iff]; simp; done) | (simp; done))) ?_)), (by repeat (first | exact SubH_nil | refine SubH_cons rfl (by first | rfl | (simp; done) | assumption) ?_))⟩ hi⟩)
        · try simp at h7
          refine j_seq ?_
          refine j_region ?_
          refine jg_adr _ rfl _ rfl rfl (op_eql (.base rfl) (.base rfl)) ?_
          refine jg_adr _ rfl _ rfl rfl (op_assign (.base rfl)) ?_
          refine jg_nil ?_
          refine jn_keep [0, 1, 2, 11, 15, 23] [] (.cons rfl (.cons rfl (.cons rfl (.cons rfl (.cons rfl (.cons rfl .nil)))))) .nil ?_
          refine jn_seq ?_
          refine j_cond rfl (fun h9 => ?_) (fun h9 => ?_)
          · try simp at h9
            refine j_region ?_
            refine jg_adr _ rfl _ rfl rfl (op_assign (.base rfl)) ?_
            refine jg_nil ?_
            refine jn_keep [0, 11] [] (.cons rfl (.cons rfl .nil)) .nil ?_
            refine jn_blk ?_
            exact jn_loop (fun a w hi => ⟨(), trivial, Sub.inv ⟨(by repeat (first | exact SubS_nil | refine SubS_cons rfl (by first | rfl | (refine rb ?_; unfold upM; (repeat' first | rw [if_pos (by omega)] | rw [if_neg (by omega)]); all_goals first | rfl | (exact up_a (by omega)) | (exact up_b (by omega)) | (exact up_c (by omega)) | (exact up_d (by omega)) | (rw [Bool.eq_iff_iff]; simp; omega) | (rw [Bool.eq_iff_iff]; simp; done) | (simp; done))) ?_)), (by repeat (first | exact SubH_nil | refine SubH_cons rfl (by first | rfl | (simp; done) | assumption) ?_))⟩ hi⟩)
          · try simp at h9
            refine j_seq ?_
            refine j_region ?_
            refine jg_adr _ rfl _ rfl rfl (op_eql (.base rfl) (.base rfl)) ?_
            refine jg_adr _ rfl _ rfl rfl (op_assign (.base rfl)) ?_
            refine jg_nil ?_
            refine jn_keep [0, 1, 2, 11, 15, 25] [] (.cons rfl (.cons rfl (.cons rfl (.cons rfl (.cons rfl (.cons rfl .nil)))))) .nil ?_
            refine jn_seq ?_
            refine j_cond rfl (fun h11 => ?_) (fun h11 => ?_)
            · try simp at h11
              refine j_region ?_
              refine jg_adr _ rfl _ rfl rfl (op_move (.base rfl)) ?_
              refine jg_adr _ rfl _ rfl rfl (op_move (.base rfl)) ?_
              refine jg_adr _ rfl _ rfl rfl (op_move (.base rfl)) ?_
              refine jg_adr _ rfl _ rfl rfl (op_sub (.base rfl) (.base rfl) (sub_nat (by omega) (by omega))) ?_
              refine jg_adr _ rfl _ rfl rfl (op_geq (.base rfl) (.base rfl)) ?_
              refine jg_adr _ rfl _ rfl rfl (op_assign (.base rfl)) ?_
              refine jg_nil ?_
              refine jn_keep [0, 11] [] (.cons rfl (.cons rfl .nil)) .nil ?_
              refine jn_blk ?_
              exact jn_loop (fun a w hi => ⟨(), trivial, Sub.inv ⟨(by repeat (first | exact SubS_nil | refine SubS_cons rfl (by first | rfl | (refine rb ?_; unfold upM; (repeat' first | rw [if_pos (by omega)] | rw [if_neg (by omega)]); all_goals first | rfl | (exact up_a (by omega)) | (exact up_b (by omega)) | (exact up_c (by omega)) | (exact up_d (by omega)) | (rw [Bool.eq_iff_iff]; simp; omega) | (rw [Bool.eq_iff_iff]; simp; done) | (simp; done))) ?_)), (by repeat (first | exact SubH_nil | refine SubH_cons rfl (by first | rfl | (simp; done) | assumption) ?_))⟩ hi⟩)
            · try simp at h11
              refine j_seq ?_
              refine j_region ?_
              refine jg_adr _ rfl _ rfl rfl (op_eql (.base rfl) (.base rfl)) ?_
              refine jg_adr _ rfl _ rfl rfl (op_assign (.base rfl)) ?_
              refine jg_nil ?_
              refine jn_keep [0, 1, 2, 11, 32] [] (.cons rfl (.cons rfl (.cons rfl (.cons rfl (.cons rfl .nil))))) .nil ?_
              refine jn_seq ?_
              refine j_cond rfl (fun h13 => ?_) (fun h13 => ?_)
              · try simp at h13
                refine j_region ?_
                refine jg_adr _ rfl _ rfl rfl (op_move (.base rfl)) ?_
                refine jg_adr _ rfl _ rfl rfl (op_move (.base rfl)) ?_
                refine jg_adr _ rfl _ rfl rfl (op_move (.base rfl)) ?_
                refine jg_adr _ rfl _ rfl rfl (op_sub (.base rfl) (.base rfl) (sub_nat (by omega) (by omega))) ?_
                refine jg_adr _ rfl _ rfl rfl (op_gtr (.base rfl) (.base rfl)) ?_
                refine jg_adr _ rfl _ rfl rfl (op_move (.base rfl)) ?_
                refine jg_gd _ _ _ _ _ _ rfl rfl rfl rfl rfl (fun hg => op_move (.base rfl)) ?_
                refine jg_gd _ _ _ _ _ _ rfl rfl rfl rfl rfl (fun hg => op_move (.base rfl)) ?_
                refine jg_gd _ _ _ _ _ _ rfl rfl rfl rfl rfl (fun hg => op_move (.base rfl)) ?_
                refine jg_gd _ _ _ _ _ _ rfl rfl rfl rfl rfl (fun hg => op_sub (.gd rfl hg) (.gd rfl hg) (sub_nat (by omega) (by omega))) ?_
                refine jg_gd _ _ _ _ _ _ rfl rfl rfl rfl rfl (fun hg => op_eql (.gd rfl hg) (.gd rfl hg)) ?_
                refine jg_gd _ _ _ _ _ _ rfl rfl rfl rfl rfl (fun hg => op_move (.gd rfl hg)) ?_
                refine jg_gd2 _ _ _ _ _ _ _ rfl rfl rfl rfl rfl (fun hg => op_move (.base rfl)) ?_
                refine jg_gd2 _ _ _ _ _ _ _ rfl rfl rfl rfl rfl (fun hg => op_rem_e (.gd rfl hg) (.base rfl) (by omega) (rem_nat (m := 2))) ?_
                refine jg_gd2 _ _ _ _ _ _ _ rfl rfl rfl rfl rfl (fun hg => op_eql (.gd rfl hg) (.base rfl)) ?_
                refine jg_gd _ _ _ _ _ _ rfl rfl rfl rfl rfl (fun hg => op_pick_and (.gd rfl hg) (.base rfl) rfl (by intro h; first | (rw [h]; rfl) | (rw [hg, h]; rfl) | (rw [h, hg]; rfl) | simp_all)) ?_
                refine jg_adr _ rfl _ rfl rfl (op_pick_or (.base rfl) (.base rfl) rfl (by intro h; first | (rw [h]; rfl) | (rw [hg, h]; rfl) | (rw [h, hg]; rfl) | simp_all)) ?_
                refine jg_adr _ rfl _ rfl rfl (op_assign (.base rfl)) ?_
                refine jg_nil ?_
                refine jn_keep [0, 11] [] (.cons rfl (.cons rfl .nil)) .nil ?_
                refine jn_blk ?_
                exact jn_loop (fun a w hi => ⟨(), trivial, Sub.inv ⟨(by repeat (first | exact SubS_nil | refine SubS_cons rfl (by first | rfl | (refine rb ?_; unfold upM; (repeat' first | rw [if_pos (by omega)] | rw [if_neg (by omega)]); all_goals first | rfl | (exact up_a (by omega)) | (exact up_b (by omega)) | (exact up_c (by omega)) | (exact up_d (by omega)) | (rw [Bool.eq_iff_iff]; simp; omega) | (rw [Bool.eq_iff_iff]; simp; done) | (simp; done))) ?_)), (by repeat (first | exact SubH_nil | refine SubH_cons rfl (by first | rfl | (simp; done) | assumption) ?_))⟩ hi⟩)
              · try simp at h13
                refine j_skip (jn_blk ?_)
                exact jn_loop (fun a w hi => ⟨(), trivial, Sub.inv ⟨(by repeat (first | exact SubS_nil | refine SubS_cons rfl (by first | rfl | (refine rb ?_; unfold upM; (repeat' first | rw [if_pos (by omega)] | rw [if_neg (by omega)]); all_goals first | rfl | (exact up_a (by omega)) | (exact up_b (by omega)) | (exact up_c (by omega)) | (exact up_d (by omega)) | (rw [Bool.eq_iff_iff]; simp; omega) | (rw [Bool.eq_iff_iff]; simp; done) | (simp; done))) ?_)), (by repeat (first | exact SubH_nil | refine SubH_cons rfl (by first | rfl | (simp; done) | assumption) ?_))⟩ hi⟩)
    · rintro _ -
      refine jn_seq (j_seq (j_seq ?_))
      refine j_region ?_
      refine jg_adr _ rfl _ rfl rfl (op_move (.base rfl)) ?_
      refine jg_nil ?_
      refine jn_keep [0, 51] [] (.cons rfl (.cons rfl .nil)) .nil ?_
      refine jn_seq ?_
      refine j_cond rfl (fun h15 => ?_) (fun h15 => ?_)
      · try simp at h15
        refine j_region ?_
        refine jg_adr _ rfl _ rfl rfl (op_move (.base rfl)) ?_
        refine jg_adr _ rfl _ rfl rfl (op_add (.base rfl) (.base rfl) (add_nat (m := 1) (by omega))) ?_
        refine jg_adr _ rfl _ rfl rfl (op_assign (.base rfl)) ?_
        refine jg_nil ?_
        refine jn_keep [0] [] (.cons rfl .nil) .nil ?_
        refine jn_seq (j_seq ?_)
        refine j_region ?_
        refine jg_adr _ rfl _ rfl rfl (op_move (.base rfl)) ?_
        refine jg_adr _ rfl _ rfl rfl (op_assign (.base rfl)) ?_
        refine jg_nil ?_
        refine jn_keep [10] [] (.cons rfl .nil) .nil ?_
        refine jn_seq (j_ret ?_)
        exact jr_fin1 Try.results59 (res_tmp rfl) rfl (ri (by unfold rndM; first | rw [if_pos h15] | rw [if_neg (by simp [h15])]))
      · try simp at h15
        refine j_skip (jn_seq (j_seq ?_))
        refine j_region ?_
        refine jg_adr _ rfl _ rfl rfl (op_move (.base rfl)) ?_
        refine jg_adr _ rfl _ rfl rfl (op_assign (.base rfl)) ?_
        refine jg_nil ?_
        refine jn_keep [10] [] (.cons rfl .nil) .nil ?_
        refine jn_seq (j_ret ?_)
        exact jr_fin1 Try.results59 (res_tmp rfl) rfl (ri (by unfold rndM; first | rw [if_pos h15] | rw [if_neg (by simp [h15])]))

theorem rrounded_ok (q r d : Nat) (neg : Bool) (mode : Int) (hr : r < d) (hd : d ≤ 9223372036854775807) (hq : q < 9223372036854775807) : Ct Try.prog 74 [.raw (.int .i64 (q : Nat)), .raw (.int .i64 (r : Nat)), .raw (.int .i64 (d : Nat)), .raw (.bool neg), .raw (.int .i64 mode)] (.raw (.int .i64 (sgn (rndM q r d neg mode) neg))) := by
  refine ct_intro Try.func74 rfl rfl Try.ntmps74 rfl rfl ?_
  intro w0 ok0
  refine j_seq ?_
  refine j_region ?_
  refine jg_adr _ rfl _ rfl rfl (op_assign (.base rfl)) ?_
  refine jg_nil ?_
  refine jn_keep [0, 1, 2, 3, 4] [] (.cons rfl (.cons rfl (.cons rfl (.cons rfl (.cons rfl .nil))))) .nil ?_
  refine jn_seq (j_seq ?_)
  refine j_region ?_
  refine jg_adr _ rfl _ rfl rfl (op_assign (.base rfl)) ?_
  refine jg_nil ?_
  refine jn_keep [0, 1, 2, 3, 4, 11] [] (.cons rfl (.cons rfl (.cons rfl (.cons rfl (.cons rfl (.cons rfl .nil)))))) .nil ?_
  refine jn_seq (j_seq (j_seq ?_))
  refine j_region ?_
  refine jg_adr _ rfl _ rfl rfl (op_move (.base rfl)) ?_
  refine jg_nil ?_
  refine jn_keep [0, 1, 2, 3, 11, 12] [] (.cons rfl (.cons rfl (.cons rfl (.cons rfl (.cons rfl (.cons rfl .nil)))))) .nil ?_
  refine jn_seq ?_
  refine j_cut (ι := Unit) (fun _ => ⟨[(0, .raw (.int .i64 (q : Nat))), (3, .raw (.bool neg)), (11, .raw (.bool (upM q r d neg mode)))], []⟩) (fun _ => True) ?_ ?_
  · skip
    refine j_block (j_seq ?_)
    refine j_region ?_
    refine jg_adr _ rfl _ rfl rfl (op_eql (.base rfl) (.base rfl)) ?_
    refine jg_adr _ rfl _ rfl rfl (op_assign (.base rfl)) ?_
    refine jg_nil ?_
    refine jn_keep [0, 1, 2, 3, 11, 12, 13] [] (.cons rfl (.cons rfl (.cons rfl (.cons rfl (.cons rfl (.cons rfl (.cons rfl .nil))))))) .nil ?_
    refine jn_seq ?_
    refine j_cond rfl (fun h3 => ?_) (fun h3 => ?_)
    · try simp at h3
      refine j_region ?_
      refine jg_adr _ rfl _ rfl rfl (op_move (.base rfl)) ?_
      refine jg_adr _ rfl _ rfl rfl (op_move (.base rfl)) ?_
      refine jg_gd _ _ _ _ _ _ rfl rfl rfl rfl rfl (fun hg => op_move (.base rfl)) ?_
      refine jg_gd _ _ _ _ _ _ rfl rfl rfl rfl rfl (fun hg => op_gtr (.gd rfl hg) (.base rfl)) ?_
      refine jg_adr _ rfl _ rfl rfl (op_pick_and (.base rfl) (.base rfl) rfl (by intro h; first | (rw [h]; rfl) | (rw [hg, h]; rfl) | (rw [h, hg]; rfl) | simp_all)) ?_
      refine jg_adr _ rfl _ rfl rfl (op_assign (.base rfl)) ?_
      refine jg_nil ?_
      refine jn_keep [0, 3, 11] [] (.cons rfl (.cons rfl (.cons rfl .nil))) .nil ?_
      refine jn_blk ?_
      exact jn_loop (fun a w hi => ⟨(), trivial, Sub.inv ⟨(by repeat (first | exact SubS_nil | refine SubS_cons rfl (by first | rfl | (refine rb ?_; unfold upM; by_cases hr0 : r = 0 <;> (repeat' first | rw [if_pos (by omega)] | rw [if_neg (by omega)]); all_goals first | rfl | (exact up_a (by omega)) | (exact up_b (by omega)) | (exact up_c (by omega)) | (exact up_d (by omega)) | (rw [Bool.eq_iff_iff]; simp; omega) | (rw [Bool.eq_iff_iff]; simp; done) | (simp; done))) ?_)), (by repeat (first | exact SubH_nil | refine SubH_cons rfl (by first | rfl | (simp; done) | assumption) ?_))⟩ hi⟩)
    · try simp at h3
      refine j_seq ?_
      refine j_region ?_
      refine jg_adr _ rfl _ rfl rfl (op_eql (.base rfl) (.base rfl)) ?_
      refine jg_adr _ rfl _ rfl rfl (op_assign (.base rfl)) ?_
      refine jg_nil ?_
      refine jn_keep [0, 1, 2, 3, 11, 12, 20] [] (.cons rfl (.cons rfl (.cons rfl (.cons rfl (.cons rfl (.cons rfl (.cons rfl .nil))))))) .nil ?_
      refine jn_seq ?_
      refine j_cond rfl (fun h5 => ?_) (fun h5 => ?_)
      · try simp at h5
        refine j_region ?_
        refine jg_adr _ rfl _ rfl rfl (op_move (.base rfl)) ?_
        refine jg_adr _ rfl _ rfl rfl (op_not (.base rfl)) ?_
        refine jg_adr _ rfl _ rfl rfl (op_move (.base rfl)) ?_
        refine jg_gd _ _ _ _ _ _ rfl rfl rfl rfl rfl (fun hg => op_move (.base rfl)) ?_
        refine jg_gd _ _ _ _ _ _ rfl rfl rfl rfl rfl (fun hg => op_gtr (.gd rfl hg) (.base rfl)) ?_
        refine jg_adr _ rfl _ rfl rfl (op_pick_and (.base rfl) (.base rfl) rfl (by intro h; first | (rw [h]; rfl) | (rw [hg, h]; rfl) | (rw [h, hg]; rfl) | simp_all)) ?_
        refine jg_adr _ rfl _ rfl rfl (op_assign (.base rfl)) ?_
        refine jg_nil ?_
        refine jn_keep [0, 3, 11] [] (.cons rfl (.cons rfl (.cons rfl .nil))) .nil ?_
        refine jn_blk ?_
        exact jn_loop (fun a w hi => ⟨(), trivial, Sub.inv ⟨(by repeat (first | exact SubS_nil | refine SubS_cons rfl (by first | rfl | (refine rb ?_; unfold upM; by_cases hr0 : r = 0 <;> (repeat' first | rw [if_pos (by omega)] | rw [if_neg (by omega)]); all_goals first | rfl | (exact up_a (by omega)) | (exact up_b (by omega)) | (exact up_c (by omega)) | (exact up_d (by omega)) | (rw [Bool.eq_iff_iff]; simp; omega) | (rw [Bool.eq_iff_iff]; simp; done) | (simp; done))) ?_)), (by repeat (first | exact SubH_nil | refine SubH_cons rfl (by first | rfl | (simp; done) | assumption) ?_))⟩ hi⟩)
      · try simp at h5
        refine j_seq ?_
        refine j_region ?_
        refine jg_adr _ rfl _ rfl rfl (op_eql (.base rfl) (.base rfl)) ?_
        refine jg_adr _ rfl _ rfl rfl (op_assign (.base rfl)) ?_
        refine jg_nil ?_
        refine jn_keep [0, 1, 2, 3, 11, 12, 28] [] (.cons rfl (.cons rfl (.cons rfl (.cons rfl (.cons rfl (.cons rfl (.cons rfl .nil))))))) .nil ?_
        refine jn_seq ?_
        refine j_cond rfl (fun h7 => ?_) (fun h7 => ?_)
        · try simp at h7
          refine j_region ?_
          refine jg_adr _ rfl _ rfl rfl (op_move (.base rfl)) ?_
          refine jg_adr _ rfl _ rfl rfl (op_gtr (.base rfl) (.base rfl)) ?_
          refine jg_adr _ rfl _ rfl rfl (op_assign (.base rfl)) ?_
          refine jg_nil ?_
          refine jn_keep [0, 3, 11] [] (.cons rfl (.cons rfl (.cons rfl .nil))) .nil ?_
          refine jn_blk ?_
          exact jn_loop (fun a w hi => ⟨(), trivial, Sub.inv ⟨(by repeat (first | exact SubS_nil | refine SubS_cons rfl (by first | rfl | (refine rb ?_; unfold upM; by_cases hr0 : r = 0 <;> (repeat' first | rw [if_pos (by omega)] | rw [if_neg (by omega)]); all_goals first | rfl | (exact up_a (by omega)) | (exact up_b (by omega)) | (exact up_c (by omega)) | (exact up_d (by omega)) | (rw [Bool.eq_iff_iff]; simp; omega) | (rw [Bool.eq_iff_iff]; simp; done) | (simp; done))) ?_)), (by repeat (first | exact SubH_nil | refine SubH_cons rfl (by first | rfl | (simp; done) | assumption) ?_))⟩ hi⟩)
        · try simp at h7
          refine j_seq ?_
          refine j_region ?_
          refine jg_adr _ rfl _ rfl rfl (op_eql (.base rfl) (.base rfl)) ?_
          refine jg_adr _ rfl _ rfl rfl (op_assign (.base rfl)) ?_
          refine jg_nil ?_
          refine jn_keep [0, 1, 2, 3, 11, 12, 32] [] (.cons rfl (.cons rfl (.cons rfl (.cons rfl (.cons rfl (.cons rfl (.cons rfl .nil))))))) .nil ?_
          refine jn_seq ?_
          refine j_cond rfl (fun h9 => ?_) (fun h9 => ?_)
          · try simp at h9
            refine j_region ?_
            refine jg_adr _ rfl _ rfl rfl (op_move (.base rfl)) ?_
            refine jg_adr _ rfl _ rfl rfl (op_move (.base rfl)) ?_
            refine jg_adr _ rfl _ rfl rfl (op_move (.base rfl)) ?_
            refine jg_adr _ rfl _ rfl rfl (op_sub (.base rfl) (.base rfl) (w64 (by omega))) ?_
            refine jg_adr _ rfl _ rfl rfl (op_geq (.base rfl) (.base rfl)) ?_
            refine jg_adr _ rfl _ rfl rfl (op_assign (.base rfl)) ?_
            refine jg_nil ?_
            refine jn_keep [0, 3, 11] [] (.cons rfl (.cons rfl (.cons rfl .nil))) .nil ?_
            refine jn_blk ?_
            exact jn_loop (fun a w hi => ⟨(), trivial, Sub.inv ⟨(by repeat (first | exact SubS_nil | refine SubS_cons rfl (by first | rfl | (refine rb ?_; unfold upM; by_cases hr0 : r = 0 <;> (repeat' first | rw [if_pos (by omega)] | rw [if_neg (by omega)]); all_goals first | rfl | (exact up_a (by omega)) | (exact up_b (by omega)) | (exact up_c (by omega)) | (exact up_d (by omega)) | (rw [Bool.eq_iff_iff]; simp; omega) | (rw [Bool.eq_iff_iff]; simp; done) | (simp; done))) ?_)), (by repeat (first | exact SubH_nil | refine SubH_cons rfl (by first | rfl | (simp; done) | assumption) ?_))⟩ hi⟩)
          · try simp at h9
            refine j_seq ?_
            refine j_region ?_
            refine jg_adr _ rfl _ rfl rfl (op_eql (.base rfl) (.base rfl)) ?_
            refine jg_adr _ rfl _ rfl rfl (op_assign (.base rfl)) ?_
            refine jg_nil ?_
            refine jn_keep [0, 1, 2, 3, 11, 39] [] (.cons rfl (.cons rfl (.cons rfl (.cons rfl (.cons rfl (.cons rfl .nil)))))) .nil ?_
            refine jn_seq ?_
            refine j_cond rfl (fun h11 => ?_) (fun h11 => ?_)
            · try simp at h11
              refine j_region ?_
              refine jg_adr _ rfl _ rfl rfl (op_move (.base rfl)) ?_
              refine jg_adr _ rfl _ rfl rfl (op_move (.base rfl)) ?_
              refine jg_adr _ rfl _ rfl rfl (op_move (.base rfl)) ?_
              refine jg_adr _ rfl _ rfl rfl (op_sub (.base rfl) (.base rfl) (w64 (by omega))) ?_
              refine jg_adr _ rfl _ rfl rfl (op_gtr (.base rfl) (.base rfl)) ?_
              refine jg_adr _ rfl _ rfl rfl (op_move (.base rfl)) ?_
              refine jg_gd _ _ _ _ _ _ rfl rfl rfl rfl rfl (fun hg => op_move (.base rfl)) ?_
              refine jg_gd _ _ _ _ _ _ rfl rfl rfl rfl rfl (fun hg => op_move (.base rfl)) ?_
              refine jg_gd _ _ _ _ _ _ rfl rfl rfl rfl rfl (fun hg => op_move (.base rfl)) ?_
              refine jg_gd _ _ _ _ _ _ rfl rfl rfl rfl rfl (fun hg => op_sub (.gd rfl hg) (.gd rfl hg) (w64 (by omega))) ?_
              refine jg_gd _ _ _ _ _ _ rfl rfl rfl rfl rfl (fun hg => op_eql (.gd rfl hg) (.gd rfl hg)) ?_
              refine jg_gd _ _ _ _ _ _ rfl rfl rfl rfl rfl (fun hg => op_move (.gd rfl hg)) ?_
              refine jg_gd2 _ _ _ _ _ _ _ rfl rfl rfl rfl rfl (fun hg => op_move (.base rfl)) ?_
              refine jg_gd2 _ _ _ _ _ _ _ rfl rfl rfl rfl rfl (fun hg => op_rem_e (.gd rfl hg) (.base rfl) (by omega) (rem_nat (m := 2))) ?_
              refine jg_gd2 _ _ _ _ _ _ _ rfl rfl rfl rfl rfl (fun hg => op_eql (.gd rfl hg) (.base rfl)) ?_
              refine jg_gd _ _ _ _ _ _ rfl rfl rfl rfl rfl (fun hg => op_pick_and (.gd rfl hg) (.base rfl) rfl (by intro h; first | (rw [h]; rfl) | (rw [hg, h]; rfl) | (rw [h, hg]; rfl) | simp_all)) ?_
              refine jg_adr _ rfl _ rfl rfl (op_pick_or (.base rfl) (.base rfl) rfl (by intro h; first | (rw [h]; rfl) | (rw [hg, h]; rfl) | (rw [h, hg]; rfl) | simp_all)) ?_
              refine jg_adr _ rfl _ rfl rfl (op_assign (.base rfl)) ?_
              refine jg_nil ?_
              refine jn_keep [0, 3, 11] [] (.cons rfl (.cons rfl (.cons rfl .nil))) .nil ?_
              refine jn_blk ?_
              exact jn_loop (fun a w hi => ⟨(), trivial, Sub.inv ⟨(by repeat (first | exact SubS_nil | refine SubS_cons rfl (by first | rfl | (refine rb ?_; unfold upM; by_cases hr0 : r = 0 <;> (repeat' first | rw [if_pos (by omega)] | rw [if_neg (by omega)]); all_goals first | rfl | (exact up_a (by omega)) | (exact up_b (by omega)) | (exact up_c (by omega)) | (exact up_d (by omega)) | (rw [Bool.eq_iff_iff]; simp; omega) | (rw [Bool.eq_iff_iff]; simp; done) | (simp; done))) ?_)), (by repeat (first | exact SubH_nil | refine SubH_cons rfl (by first | rfl | (simp; done) | assumption) ?_))⟩ hi⟩)
            · try simp at h11
              refine j_skip (jn_blk ?_)
              exact jn_loop (fun a w hi => ⟨(), trivial, Sub.inv ⟨(by repeat (first | exact SubS_nil | refine SubS_cons rfl (by first | rfl | (refine rb ?_; unfold upM; by_cases hr0 : r = 0 <;> (repeat' first | rw [if_pos (by omega)] | rw [if_neg (by omega)]); all_goals first | rfl | (exact up_a (by omega)) | (exact up_b (by omega)) | (exact up_c (by omega)) | (exact up_d (by omega)) | (rw [Bool.eq_iff_iff]; simp; omega) | (rw [Bool.eq_iff_iff]; simp; done) | (simp; done))) ?_)), (by repeat (first | exact SubH_nil | refine SubH_cons rfl (by first | rfl | (simp; done) | assumption) ?_))⟩ hi⟩)
  · rintro _ -
    refine jn_seq (j_seq (j_seq ?_))
    refine j_region ?_
    refine jg_adr _ rfl _ rfl rfl (op_move (.base rfl)) ?_
    refine jg_nil ?_
    refine jn_keep [0, 3, 58] [] (.cons rfl (.cons rfl (.cons rfl .nil))) .nil ?_
    refine jn_seq ?_
    refine j_cond rfl (fun h13 => ?_) (fun h13 => ?_)
    · try simp at h13
      refine j_region ?_
      refine jg_adr _ rfl _ rfl rfl (op_move (.base rfl)) ?_
      refine jg_adr _ rfl _ rfl rfl (op_add (.base rfl) (.base rfl) (w64 (by omega))) ?_
      refine jg_adr _ rfl _ rfl rfl (op_assign (.base rfl)) ?_
      refine jg_nil ?_
      refine jn_keep [0, 3] [] (.cons rfl (.cons rfl .nil)) .nil ?_
      refine jn_seq (j_seq (j_seq ?_))
      refine j_region ?_
      refine jg_adr _ rfl _ rfl rfl (op_move (.base rfl)) ?_
      refine jg_nil ?_
      refine jn_keep [0, 61] [] (.cons rfl (.cons rfl .nil)) .nil ?_
      refine jn_seq ?_
      refine j_cond rfl (fun h15 => ?_) (fun h15 => ?_)
      · try simp at h15
        refine j_seq ?_
        refine j_region ?_
        refine jg_adr _ rfl _ rfl rfl (op_move (.base rfl)) ?_
        refine jg_adr _ rfl _ rfl rfl ((op_neg (.base rfl) (w64 (by omega)))) ?_
        refine jg_adr _ rfl _ rfl rfl (op_assign (.base rfl)) ?_
        refine jg_nil ?_
        refine jn_keep [10] [] (.cons rfl .nil) .nil ?_
        refine jn_seq (j_ret (jr_seq ?_))
        exact jr_fin1 Try.results74 (res_tmp rfl) rfl (ri (by unfold sgn rndM; rw [if_pos h15]; first | (rw [if_pos h13]; rfl) | (rw [if_neg (by simp [h13])])))
      · try simp at h15
        refine j_skip (jn_seq (j_seq ?_))
        refine j_region ?_
        refine jg_adr _ rfl _ rfl rfl (op_move (.base rfl)) ?_
        refine jg_adr _ rfl _ rfl rfl (op_assign (.base rfl)) ?_
        refine jg_nil ?_
        refine jn_keep [10] [] (.cons rfl .nil) .nil ?_
        refine jn_seq (j_ret ?_)
        exact jr_fin1 Try.results74 (res_tmp rfl) rfl (ri (by unfold sgn rndM; rw [if_neg (by simp [h15])]; first | (rw [if_pos h13]; rfl) | (rw [if_neg (by simp [h13])])))
    · try simp at h13
      refine j_skip (jn_seq (j_seq (j_seq ?_)))
      refine j_region ?_
      refine jg_adr _ rfl _ rfl rfl (op_move (.base rfl)) ?_
      refine jg_nil ?_
      refine jn_keep [0, 61] [] (.cons rfl (.cons rfl .nil)) .nil ?_
      refine jn_seq ?_
      refine j_cond rfl (fun h15 => ?_) (fun h15 => ?_)
      · try simp at h15
        refine j_seq ?_
        refine j_region ?_
        refine jg_adr _ rfl _ rfl rfl (op_move (.base rfl)) ?_
        refine jg_adr _ rfl _ rfl rfl ((op_neg (.base rfl) (w64 (by omega)))) ?_
        refine jg_adr _ rfl _ rfl rfl (op_assign (.base rfl)) ?_
        refine jg_nil ?_
        refine jn_keep [10] [] (.cons rfl .nil) .nil ?_
        refine jn_seq (j_ret (jr_seq ?_))
        exact jr_fin1 Try.results74 (res_tmp rfl) rfl (ri (by unfold sgn rndM; rw [if_pos h15]; first | (rw [if_pos h13]; rfl) | (rw [if_neg (by simp [h13])])))
      · try simp at h15
        refine j_skip (jn_seq (j_seq ?_))
        refine j_region ?_
        refine jg_adr _ rfl _ rfl rfl (op_move (.base rfl)) ?_
        refine jg_adr _ rfl _ rfl rfl (op_assign (.base rfl)) ?_
        refine jg_nil ?_
        refine jn_keep [10] [] (.cons rfl .nil) .nil ?_
        refine jn_seq (j_ret ?_)
        exact jr_fin1 Try.results74 (res_tmp rfl) rfl (ri (by unfold sgn rndM; rw [if_neg (by simp [h15])]; first | (rw [if_pos h13]; rfl) | (rw [if_neg (by simp [h13])])))

end Go.Proofs.Ytcdkmhmlpjnfeaa
