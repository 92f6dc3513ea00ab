import Derived.Test.YtcdkmhmlpjnfeaaP12f
namespace Go.Proofs.Ytcdkmhmlpjnfeaa
open Go.Eng
set_option maxRecDepth 100000
set_option maxHeartbeats 4000000
set_option linter.unusedVariables false
set_option linter.unusedSimpArgs false


/-- the rounded sum, or the range's code -/
def rsR (total mode : Int) : Int × Int := if 1000000000000000 < (tvR total mode).natAbs then (0, 3) else (tvR total mode, 0)
def partOf (W p : Int) : Int := if W > 1 then p + 2 else if W < -1 then p - 2 else p
theorem w64c {e v : Int} (h : e = v) (hb : -9223372036854775808 ≤ v ∧ v ≤ 9223372036854775807) : IntKind.i64.wrap e = v := by rw [h]; exact w64 hb
theorem part_law {W p Rm mode : Int} (hp : W = 2 * ((W - p) / 2) + p) (hs : (0 ≤ W → 0 ≤ p ∧ p ≤ 1) ∧ (W ≤ 0 → -1 ≤ p ∧ p ≤ 0)) (hr : -1000000 < Rm ∧ Rm < 1000000) :
    W - partOf W p + tvR (partOf W p * 1000000 + Rm) mode = tvR (W * 1000000 + Rm) mode ∧ -3 ≤ partOf W p ∧ partOf W p ≤ 3 := by
  unfold partOf
  by_cases h1 : W > 1
  · rw [if_pos h1]
    obtain ⟨e, he⟩ : ∃ e : Nat, (e : Int) = (W - p) / 2 - 1 := ⟨((W - p) / 2 - 1).toNat, by omega⟩
    have := (tvR_shift ((p + 2) * 1000000 + Rm) e mode).1 (by omega)
    rw [show W * 1000000 + Rm = (p + 2) * 1000000 + Rm + 2 * e * 1000000 by omega, this]
    omega
  · rw [if_neg h1]
    by_cases h2 : W < -1
    · rw [if_pos h2]
      obtain ⟨e, he⟩ : ∃ e : Nat, (e : Int) = -((W - p) / 2) - 1 := ⟨(-((W - p) / 2) - 1).toNat, by omega⟩
      have := (tvR_shift ((p - 2) * 1000000 + Rm) e mode).2 (by omega)
      rw [show W * 1000000 + Rm = (p - 2) * 1000000 + Rm - 2 * e * 1000000 by omega, this]
      omega
    · rw [if_neg h2]
      have : W = p := by omega
      subst this
      omega

theorem tvR_bd {total mode : Int} (h : -2000001000000000000000 ≤ total ∧ total ≤ 2000001000000000000000) : -5000000000000000 ≤ tvR total mode ∧ tvR total mode ≤ 5000000000000000 := by
  have h1 := (rndM_le (total.natAbs / 1000000) (total.natAbs % 1000000) 1000000 (decide (total < 0)) mode).1
  have h2 := sgn_abs (rndM (total.natAbs / 1000000) (total.natAbs % 1000000) 1000000 (decide (total < 0)) mode) (decide (total < 0))
  unfold tvR
  omega

theorem roundSum_ok (w mi mode Q Rm p : Int) (hm : modeOk mode = true) (hw : -100000000000000000 ≤ w ∧ w ≤ 100000000000000000) (hmi : -1000000000000 ≤ mi ∧ mi ≤ 1000000000000) (hQ : mi.tdiv 1000000 = Q) (hR : mi.tmod 1000000 = Rm) (hRm : -1000000 < Rm ∧ Rm < 1000000) (hqr : mi = Q * 1000000 + Rm) (hp : (w + Q).tmod 2 = p) (hp2 : w + Q = 2 * ((w + Q - p) / 2) + p) (hps : (0 ≤ w + Q → 0 ≤ p ∧ p ≤ 1) ∧ (w + Q ≤ 0 → -1 ≤ p ∧ p ≤ 0)) (htot : w * 1000000 + mi = (w + Q) * 1000000 + Rm) : Ct Try.prog 49 [.raw (.int .i64 w), .raw (.int .i64 mi), .raw (.int .i64 mode)] (svI2 (rsR (w * 1000000 + mi) mode)) := by
  refine ct_intro Try.func49 rfl rfl Try.ntmps49 rfl rfl ?_
  intro w0 ok0
  refine j_seq ?_
  refine j_region ?_
  refine jg_adr _ rfl _ rfl rfl (op_assign (.base rfl)) ?_
  refine jg_adr _ rfl _ rfl rfl (op_assign (.base rfl)) ?_
  refine jg_nil ?_
  refine jn_keep [0, 1, 2] [] (.cons rfl (.cons rfl (.cons rfl .nil))) .nil ?_
  refine jn_seq (j_seq ?_)
  refine j_region ?_
  refine jg_adr _ rfl _ rfl rfl (op_move (.base rfl)) ?_
  refine jg_adr _ rfl _ rfl rfl (op_move (.base rfl)) ?_
  refine jg_adr _ rfl _ rfl rfl (op_quo (.base rfl) (.base rfl) (by omega) (w64c hQ (by omega))) ?_
  refine jg_adr _ rfl _ rfl rfl (op_add (.base rfl) (.base rfl) (w64 (by omega))) ?_
  refine jg_adr _ rfl _ rfl rfl (op_assign (.base rfl)) ?_
  refine jg_nil ?_
  refine jn_keep [0, 1, 2] [] (.cons rfl (.cons rfl (.cons rfl .nil))) .nil ?_
  refine jn_seq (j_seq ?_)
  refine j_region ?_
  refine jg_adr _ rfl _ rfl rfl (op_move (.base rfl)) ?_
  refine jg_adr _ rfl _ rfl rfl (op_rem_e (.base rfl) (.base rfl) (by omega) hR) ?_
  refine jg_adr _ rfl _ rfl rfl (op_assign (.base rfl)) ?_
  refine jg_nil ?_
  refine jn_keep [0, 1, 2] [] (.cons rfl (.cons rfl (.cons rfl .nil))) .nil ?_
  refine jn_seq (j_seq (j_seq ?_))
  refine j_region ?_
  refine jg_adr _ rfl _ rfl rfl (op_move (.base rfl)) ?_
  refine jg_adr _ rfl _ rfl rfl (op_lss (.base rfl) (.base rfl)) ?_
  refine jg_adr _ rfl _ rfl rfl (op_move (.base rfl)) ?_
  refine jg_gd _ _ _ _ _ _ rfl rfl rfl rfl rfl (fun hg => op_move (.base rfl)) ?_
  refine jg_gd _ _ _ _ _ _ rfl rfl rfl rfl rfl (fun hg => op_gtr (.gd rfl hg) (.base rfl)) ?_
  refine jg_adr _ rfl _ rfl rfl (op_pick_or (.base rfl) (.base rfl) rfl (by intro h; first | (rw [h]; rfl) | (rw [hg, h]; rfl) | (rw [h, hg]; rfl) | simp_all)) ?_
  refine jg_nil ?_
  refine jn_keep [0, 1, 2, 23] [] (.cons rfl (.cons rfl (.cons rfl (.cons rfl .nil)))) .nil ?_
  refine jn_seq ?_
  refine j_cond rfl (fun h3 => ?_) (fun h3 => ?_)
  · skip
    refine j_seq ?_
    refine j_region ?_
    refine jg_adr _ rfl _ rfl rfl (op_assign (.base rfl)) ?_
    refine jg_adr _ rfl _ rfl rfl (op_assign (.base rfl)) ?_
    refine jg_nil ?_
    refine jn_keep [6, 7] [] (.cons rfl (.cons rfl .nil)) .nil ?_
    refine jn_seq (j_ret (jr_seq ?_))
    exact jr_fin2 Try.results49 (res_tmp rfl) (res_tmp rfl) ⟨rfl, rfl⟩ (svI2_eq (by unfold rsR; rw [if_pos (tvR_big (by rw [Bool.or_eq_true] at h3; rcases h3 with z | z <;> have z := of_decide_eq_true z <;> omega))]))
  · have k3 := orF h3
    have k4 := of_decide_eq_false k3.1
    have k5 := of_decide_eq_false k3.2
    refine j_skip (jn_seq (j_seq ?_))
    refine j_region ?_
    refine jg_adr _ rfl _ rfl rfl (op_move (.base rfl)) ?_
    refine jg_adr _ rfl _ rfl rfl (op_rem_e (.base rfl) (.base rfl) (by omega) hp) ?_
    refine jg_adr _ rfl _ rfl rfl (op_assign (.base rfl)) ?_
    refine jg_nil ?_
    refine jn_keep [0, 1, 2, 8] [] (.cons rfl (.cons rfl (.cons rfl (.cons rfl .nil)))) .nil ?_
    refine jn_seq (j_seq ?_)
    refine j_cut (ι := Unit) (fun _ => ⟨[(0, .raw (.int .i64 (w + Q))), (1, .raw (.int .i64 (Rm))), (2, .raw (.int .i64 (mode))), (8, .raw (.int .i64 ((partOf (w + Q) p))))], []⟩) (fun _ => True) ?_ ?_
    · skip
      refine j_block (j_seq ?_)
      refine j_region ?_
      refine jg_adr _ rfl _ rfl rfl (op_move (.base rfl)) ?_
      refine jg_adr _ rfl _ rfl rfl (op_gtr (.base rfl) (.base rfl)) ?_
      refine jg_adr _ rfl _ rfl rfl (op_assign (.base rfl)) ?_
      refine jg_nil ?_
      refine jn_keep [0, 1, 2, 8, 26] [] (.cons rfl (.cons rfl (.cons rfl (.cons rfl (.cons rfl .nil))))) .nil ?_
      refine jn_seq ?_
      refine j_cond rfl (fun h6 => ?_) (fun h6 => ?_)
      · have h6 := of_decide_eq_true h6
        refine j_region ?_
        refine jg_adr _ rfl _ rfl rfl (op_move (.base rfl)) ?_
        refine jg_adr _ rfl _ rfl rfl (op_add (.base rfl) (.base rfl) (w64 (by omega))) ?_
        refine jg_adr _ rfl _ rfl rfl (op_assign (.base rfl)) ?_
        refine jg_nil ?_
        refine jn_keep [0, 1, 2, 8] [] (.cons rfl (.cons rfl (.cons rfl (.cons rfl .nil)))) .nil ?_
        refine jn_blk ?_
        exact jn_loop (fun a w hi => ⟨(), trivial, Sub.inv ⟨(by repeat (first | exact SubS_nil | refine SubS_cons rfl (by first | rfl | (refine ri ?_; unfold partOf; first | (rw [if_pos (by omega)]; done) | (rw [if_neg (by omega), if_pos (by omega)]; done) | (rw [if_neg (by omega), if_neg (by omega)]; done))) ?_)), (by repeat (first | exact SubH_nil | refine SubH_cons rfl (by first | rfl | (simp; done) | assumption) ?_))⟩ hi⟩)
      · have h6 := of_decide_eq_false h6
        refine j_seq ?_
        refine j_region ?_
        refine jg_adr _ rfl _ rfl rfl (op_move (.base rfl)) ?_
        refine jg_adr _ rfl _ rfl rfl (op_lss (.base rfl) (.base rfl)) ?_
        refine jg_adr _ rfl _ rfl rfl (op_assign (.base rfl)) ?_
        refine jg_nil ?_
        refine jn_keep [0, 1, 2, 8, 31] [] (.cons rfl (.cons rfl (.cons rfl (.cons rfl (.cons rfl .nil))))) .nil ?_
        refine jn_seq ?_
        refine j_cond rfl (fun h8 => ?_) (fun h8 => ?_)
        · have h8 := of_decide_eq_true h8
          refine j_region ?_
          refine jg_adr _ rfl _ rfl rfl (op_move (.base rfl)) ?_
          refine jg_adr _ rfl _ rfl rfl (op_sub (.base rfl) (.base rfl) (w64 (by omega))) ?_
          refine jg_adr _ rfl _ rfl rfl (op_assign (.base rfl)) ?_
          refine jg_nil ?_
          refine jn_keep [0, 1, 2, 8] [] (.cons rfl (.cons rfl (.cons rfl (.cons rfl .nil)))) .nil ?_
          refine jn_blk ?_
          exact jn_loop (fun a w hi => ⟨(), trivial, Sub.inv ⟨(by repeat (first | exact SubS_nil | refine SubS_cons rfl (by first | rfl | (refine ri ?_; unfold partOf; first | (rw [if_pos (by omega)]; done) | (rw [if_neg (by omega), if_pos (by omega)]; done) | (rw [if_neg (by omega), if_neg (by omega)]; done))) ?_)), (by repeat (first | exact SubH_nil | refine SubH_cons rfl (by first | rfl | (simp; done) | assumption) ?_))⟩ hi⟩)
        · have h8 := of_decide_eq_false h8
          refine j_skip (jn_blk ?_)
          exact jn_loop (fun a w hi => ⟨(), trivial, Sub.inv ⟨(by repeat (first | exact SubS_nil | refine SubS_cons rfl (by first | rfl | (refine ri ?_; unfold partOf; first | (rw [if_pos (by omega)]; done) | (rw [if_neg (by omega), if_pos (by omega)]; done) | (rw [if_neg (by omega), if_neg (by omega)]; done))) ?_)), (by repeat (first | exact SubH_nil | refine SubH_cons rfl (by first | rfl | (simp; done) | assumption) ?_))⟩ hi⟩)
    · rintro _ -
      refine jn_seq (j_seq ?_)
      have kl := part_law (W := w + Q) (p := p) (Rm := Rm) (mode := mode) hp2 hps hRm
      refine j_region ?_
      refine jg_adr _ rfl _ rfl rfl (op_move (.base rfl)) ?_
      refine jg_adr _ rfl _ rfl rfl (op_mul (.base rfl) (.base rfl) (w64 (by omega))) ?_
      refine jg_adr _ rfl _ rfl rfl (op_move (.base rfl)) ?_
      refine jg_adr _ rfl _ rfl rfl (op_add (.base rfl) (.base rfl) (w64 (by omega))) ?_
      refine jg_adr _ rfl _ rfl rfl (op_move (.base rfl)) ?_
      refine jg_adr _ rfl _ rfl rfl (op_call (show Ct _ _ _ (.tup2 (.raw (.int .i64 (tvR ((partOf (w + Q) p) * 1000000 + Rm) mode))) (.raw (.int .i64 0))) from (by have := divRound_ok ((partOf (w + Q) p) * 1000000 + Rm) 1000000 mode; rw [divR_tvR (by omega) hm] at this; exact this)) (.cons (.base rfl) (.cons (.base rfl) (.cons (.base rfl) .nil))) rfl rfl) ?_
      refine jg_adr _ rfl _ rfl rfl (op_move (.base rfl)) ?_
      refine jg_adr _ rfl _ rfl rfl (op_ext20 (.base rfl)) ?_
      refine jg_adr _ rfl _ rfl rfl (op_ext21 (.base rfl)) ?_
      refine jg_adr _ rfl _ rfl rfl (op_assign (.base rfl)) ?_
      refine jg_adr _ rfl _ rfl rfl (op_assign (.base rfl)) ?_
      refine jg_nil ?_
      refine jn_keep [0, 8, 9, 10] [] (.cons rfl (.cons rfl (.cons rfl (.cons rfl .nil)))) .nil ?_
      refine jn_seq (j_seq (j_seq ?_))
      refine j_region ?_
      refine jg_adr _ rfl _ rfl rfl (op_move (.base rfl)) ?_
      refine jg_adr _ rfl _ rfl rfl (op_neq (.base rfl) (.base rfl)) ?_
      refine jg_nil ?_
      refine jn_keep [0, 8, 9, 10, 46] [] (.cons rfl (.cons rfl (.cons rfl (.cons rfl (.cons rfl .nil))))) .nil ?_
      refine jn_seq ?_
      refine j_cond rfl (fun h11 => ?_) (fun h11 => ?_)
      · exact absurd h11 (by decide)
      · have kt := kl.1
        have ktb : -5000000000000000 ≤ tvR ((w + Q) * 1000000 + Rm) mode ∧ tvR ((w + Q) * 1000000 + Rm) mode ≤ 5000000000000000 := tvR_bd (by omega)
        refine j_skip (jn_seq (j_seq ?_))
        refine j_region ?_
        refine jg_adr _ rfl _ rfl rfl (op_move (.base rfl)) ?_
        refine jg_adr _ rfl _ rfl rfl (op_move (.base rfl)) ?_
        refine jg_adr _ rfl _ rfl rfl (op_sub (.base rfl) (.base rfl) (w64 (by omega))) ?_
        refine jg_adr _ rfl _ rfl rfl (op_move (.base rfl)) ?_
        refine jg_adr _ rfl _ rfl rfl (op_add (.base rfl) (.base rfl) (w64c kt (by omega))) ?_
        refine jg_adr _ rfl _ rfl rfl (op_assign (.base rfl)) ?_
        refine jg_nil ?_
        refine jn_keep [11] [] (.cons rfl .nil) .nil ?_
        refine jn_seq (j_seq (j_seq ?_))
        refine j_region ?_
        refine jg_adr _ rfl _ rfl rfl (op_move (.base rfl)) ?_
        refine jg_adr _ rfl _ rfl rfl (op_lss (.base rfl) (.base rfl)) ?_
        refine jg_adr _ rfl _ rfl rfl (op_move (.base rfl)) ?_
        refine jg_gd _ _ _ _ _ _ rfl rfl rfl rfl rfl (fun hg => op_move (.base rfl)) ?_
        refine jg_gd _ _ _ _ _ _ rfl rfl rfl rfl rfl (fun hg => op_gtr (.gd rfl hg) (.base rfl)) ?_
        refine jg_adr _ rfl _ rfl rfl (op_pick_or (.base rfl) (.base rfl) rfl (by intro h; first | (rw [h]; rfl) | (rw [hg, h]; rfl) | (rw [h, hg]; rfl) | simp_all)) ?_
        refine jg_nil ?_
        refine jn_keep [11, 58] [] (.cons rfl (.cons rfl .nil)) .nil ?_
        refine jn_seq ?_
        refine j_cond rfl (fun h14 => ?_) (fun h14 => ?_)
        · skip
          refine j_seq ?_
          refine j_region ?_
          refine jg_adr _ rfl _ rfl rfl (op_assign (.base rfl)) ?_
          refine jg_adr _ rfl _ rfl rfl (op_assign (.base rfl)) ?_
          refine jg_nil ?_
          refine jn_keep [6, 7] [] (.cons rfl (.cons rfl .nil)) .nil ?_
          refine jn_seq (j_ret (jr_seq ?_))
          exact jr_fin2 Try.results49 (res_tmp rfl) (res_tmp rfl) ⟨rfl, rfl⟩ (svI2_eq (by unfold rsR; rw [if_pos (by rw [Bool.or_eq_true] at h14; rcases h14 with z | z <;> have z := of_decide_eq_true z <;> rw [htot] <;> omega)]))
        · have q1 := orF h14
          have q2 := of_decide_eq_false q1.1
          have q3 := of_decide_eq_false q1.2
          refine j_skip (jn_seq (j_seq ?_))
          refine j_region ?_
          refine jg_adr _ rfl _ rfl rfl (op_move (.base rfl)) ?_
          refine jg_adr _ rfl _ rfl rfl (op_assign (.base rfl)) ?_
          refine jg_adr _ rfl _ rfl rfl (op_assign (.base rfl)) ?_
          refine jg_nil ?_
          refine jn_keep [6, 7] [] (.cons rfl (.cons rfl .nil)) .nil ?_
          refine jn_seq (j_ret ?_)
          exact jr_fin2 Try.results49 (res_tmp rfl) (res_tmp rfl) ⟨rfl, rfl⟩ (svI2_eq (by unfold rsR; rw [htot, if_neg (by omega)]))

theorem roundSum_k (w mi mode : Int) (hm : modeOk mode = true) (hw : -100000000000000000 ≤ w ∧ w ≤ 100000000000000000) (hmi : -1000000000000 ≤ mi ∧ mi ≤ 1000000000000) : Ct Try.prog 49 [.raw (.int .i64 w), .raw (.int .i64 mi), .raw (.int .i64 mode)] (svI2 (rsR (w * 1000000 + mi) mode)) := by
  have e := Int.mul_tdiv_add_tmod mi 1000000
  have r1 : (mi.tmod 1000000).natAbs < 1000000 := by rw [Int.natAbs_tmod]; exact Nat.mod_lt _ (by decide)
  have e2 := Int.mul_tdiv_add_tmod (w + mi.tdiv 1000000) 2
  have r2 : ((w + mi.tdiv 1000000).tmod 2).natAbs < 2 := by rw [Int.natAbs_tmod]; exact Nat.mod_lt _ (by decide)
  have s1 : 0 ≤ w + mi.tdiv 1000000 → 0 ≤ (w + mi.tdiv 1000000).tmod 2 := fun h => Int.tmod_nonneg 2 h
  have s2 : w + mi.tdiv 1000000 ≤ 0 → (w + mi.tdiv 1000000).tmod 2 ≤ 0 := fun h => by
    have := Int.tmod_nonneg 2 (show 0 ≤ -(w + mi.tdiv 1000000) by omega)
    rw [Int.neg_tmod] at this; omega
  exact roundSum_ok w mi mode _ _ _ hm hw hmi rfl rfl (by omega) (by omega) rfl (by omega) ⟨fun h => ⟨s1 h, by omega⟩, fun h => ⟨by omega, s2 h⟩⟩ (by omega)

end Go.Proofs.Ytcdkmhmlpjnfeaa
