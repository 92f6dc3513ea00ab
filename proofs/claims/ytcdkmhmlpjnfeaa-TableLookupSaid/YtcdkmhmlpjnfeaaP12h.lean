import Derived.Test.YtcdkmhmlpjnfeaaP12g
namespace Go.Proofs.Ytcdkmhmlpjnfeaa
open Go.Eng
set_option maxRecDepth 100000
set_option maxHeartbeats 4000000
set_option linter.unusedVariables false
set_option linter.unusedSimpArgs false


theorem rrounded_I {q r mode : Int} {neg : Bool} (hr : 0 ≤ r ∧ r < 1000000) (hq : 0 ≤ q ∧ q < 9223372036854775807) : Ct Try.prog 74 [.raw (.int .i64 q), .raw (.int .i64 r), .raw (.int .i64 1000000), .raw (.bool neg), .raw (.int .i64 mode)] (.raw (.int .i64 (sgn (rndM q.toNat r.toNat 1000000 neg mode) neg))) := by
  obtain ⟨a, rfl⟩ : ∃ a : Nat, q = (a : Int) := ⟨q.toNat, by omega⟩
  obtain ⟨b, rfl⟩ : ∃ b : Nat, r = (b : Int) := ⟨r.toNat, by omega⟩
  exact rrounded_ok a b 1000000 neg mode (by omega) (by decide) (by omega)
theorem tvR_pos {W R mode : Int} (hW : 0 ≤ W) (hR : 0 ≤ R ∧ R < 1000000) : sgn (rndM W.toNat R.toNat 1000000 false mode) false = tvR (W * 1000000 + R) mode := by
  unfold tvR
  rw [decide_eq_false (show ¬ W * 1000000 + R < 0 by omega), show (W * 1000000 + R).natAbs / 1000000 = W.toNat by omega, show (W * 1000000 + R).natAbs % 1000000 = R.toNat by omega]
theorem tvR_zero {W mode : Int} (hW : W < 0) : W = tvR (W * 1000000 + 0) mode := by
  unfold tvR
  rw [decide_eq_true (show W * 1000000 + 0 < 0 by omega), rndM_mul.2 (by omega), show (W * 1000000 + 0).natAbs / 1000000 = (-W).toNat by omega]
  unfold sgn; simp; omega
theorem tvR_neg {W R mode : Int} (hW : W < 0) (hR : 0 < R ∧ R < 1000000) : sgn (rndM (-W - 1).toNat (1000000 - R).toNat 1000000 true mode) true = tvR (W * 1000000 + R) mode := by
  unfold tvR
  rw [decide_eq_true (show W * 1000000 + R < 0 by omega), show (W * 1000000 + R).natAbs / 1000000 = (-W - 1).toNat by omega, show (W * 1000000 + R).natAbs % 1000000 = (1000000 - R).toNat by omega]

theorem rounded_ok (w r mode : Int) (hw : -100000000000000000 ≤ w ∧ w ≤ 100000000000000000) (hr : -1000000000000 ≤ r ∧ r ≤ 1000000000000) : Ct Try.prog 53 [.raw (.int .i64 w), .raw (.int .i64 r), .raw (.int .i64 mode)] (.raw (.int .i64 (tvR (w * 1000000 + r) mode))) := by
  refine ct_intro Try.func53 rfl rfl Try.ntmps53 rfl rfl ?_
  intro w0 ok0
  refine j_seq ?_
  refine j_region ?_
  refine jg_adr _ rfl _ rfl rfl (op_assign (.base rfl)) ?_
  refine jg_nil ?_
  refine jn_keep [0, 1, 2] [] (.cons rfl (.cons rfl (.cons rfl .nil))) .nil ?_
  refine jn_seq (j_seq (j_block ?_))
  refine j_loopp (ι := Int × Int) (fun (W, R) => ⟨[(0, .raw (.int .i64 (W))), (1, .raw (.int .i64 (R))), (2, .raw (.int .i64 (mode)))], []⟩) (fun (W, R) => (W * 1000000 + R = w * 1000000 + r) ∧ (-1000000000000 ≤ R ∧ R ≤ 1000000000000)) (fun (W, R) => (1000000 - R).toNat) (w, r) (⟨rfl, hr⟩) (fun a w hi => (Sub.inv ⟨(by repeat (first | exact SubS_nil | refine SubS_cons rfl (by first | rfl | (simp; done) | assumption) ?_)), (by repeat (first | exact SubH_nil | refine SubH_cons rfl (by first | rfl | (simp; done) | assumption) ?_))⟩ hi)) ?_
  rintro ⟨W, R⟩ ⟨p1, p2⟩
  refine j_seq (j_seq ?_)
  refine j_region ?_
  refine jg_adr _ rfl _ rfl rfl (op_move (.base rfl)) ?_
  refine jg_adr _ rfl _ rfl rfl (op_lss (.base rfl) (.base rfl)) ?_
  refine jg_nil ?_
  refine jn_keep [0, 1, 2, 8] [] (.cons rfl (.cons rfl (.cons rfl (.cons rfl .nil)))) .nil ?_
  refine jn_seq ?_
  refine j_cond rfl (fun h1 => ?_) (fun h1 => ?_)
  · have h1 := of_decide_eq_true h1
    refine j_skip (jn_seq (j_block (j_seq ?_)))
    refine j_region ?_
    refine jg_adr _ rfl _ rfl rfl (op_move (.base rfl)) ?_
    refine jg_adr _ rfl _ rfl rfl (op_add (.base rfl) (.base rfl) (w64 (by omega))) ?_
    refine jg_adr _ rfl _ rfl rfl (op_assign (.base rfl)) ?_
    refine jg_nil ?_
    refine jn_keep [0, 1, 2] [] (.cons rfl (.cons rfl (.cons rfl .nil))) .nil ?_
    refine jn_seq ?_
    refine j_region ?_
    refine jg_adr _ rfl _ rfl rfl (op_move (.base rfl)) ?_
    refine jg_adr _ rfl _ rfl rfl (op_sub (.base rfl) (.base rfl) (w64 (by omega))) ?_
    refine jg_adr _ rfl _ rfl rfl (op_assign (.base rfl)) ?_
    refine jg_nil ?_
    refine jn_keep [0, 1, 2] [] (.cons rfl (.cons rfl (.cons rfl .nil))) .nil ?_
    refine jn_blk ?_
    exact jn_loop (fun a w hi => ⟨(W - 1, R + 1000000), (by show (1000000 - (R + 1000000)).toNat < (1000000 - R).toNat; omega), (⟨by omega, by omega⟩), (Sub.inv ⟨(by repeat (first | exact SubS_nil | refine SubS_cons rfl (by first | rfl | (simp; done) | assumption) ?_)), (by repeat (first | exact SubH_nil | refine SubH_cons rfl (by first | rfl | (simp; done) | assumption) ?_))⟩ hi)⟩)
  · have h1 := of_decide_eq_false h1
    refine j_exit (je_seq (je_loop (je_blk (jn_seq (j_seq (j_block ?_))))))
    refine j_loopp (ι := Int × Int) (fun (V, Z) => ⟨[(0, .raw (.int .i64 (V))), (1, .raw (.int .i64 (Z))), (2, .raw (.int .i64 (mode)))], []⟩) (fun (V, Z) => (V * 1000000 + Z = w * 1000000 + r) ∧ (-1000000000000 ≤ Z ∧ Z ≤ 1000000000000) ∧ 0 ≤ Z) (fun (V, Z) => Z.toNat) (W, R) (⟨p1, p2, by omega⟩) (fun a w hi => (Sub.inv ⟨(by repeat (first | exact SubS_nil | refine SubS_cons rfl (by first | rfl | (simp; done) | assumption) ?_)), (by repeat (first | exact SubH_nil | refine SubH_cons rfl (by first | rfl | (simp; done) | assumption) ?_))⟩ hi)) ?_
    rintro ⟨V, Z⟩ ⟨q1, q2, q3⟩
    refine j_seq (j_seq ?_)
    refine j_region ?_
    refine jg_adr _ rfl _ rfl rfl (op_move (.base rfl)) ?_
    refine jg_adr _ rfl _ rfl rfl (op_geq (.base rfl) (.base rfl)) ?_
    refine jg_nil ?_
    refine jn_keep [0, 1, 2, 14] [] (.cons rfl (.cons rfl (.cons rfl (.cons rfl .nil)))) .nil ?_
    refine jn_seq ?_
    refine j_cond rfl (fun h4 => ?_) (fun h4 => ?_)
    · have h4 := of_decide_eq_true h4
      refine j_skip (jn_seq (j_block (j_seq ?_)))
      refine j_region ?_
      refine jg_adr _ rfl _ rfl rfl (op_move (.base rfl)) ?_
      refine jg_adr _ rfl _ rfl rfl (op_sub (.base rfl) (.base rfl) (w64 (by omega))) ?_
      refine jg_adr _ rfl _ rfl rfl (op_assign (.base rfl)) ?_
      refine jg_nil ?_
      refine jn_keep [0, 1, 2] [] (.cons rfl (.cons rfl (.cons rfl .nil))) .nil ?_
      refine jn_seq ?_
      refine j_region ?_
      refine jg_adr _ rfl _ rfl rfl (op_move (.base rfl)) ?_
      refine jg_adr _ rfl _ rfl rfl (op_add (.base rfl) (.base rfl) (w64 (by omega))) ?_
      refine jg_adr _ rfl _ rfl rfl (op_assign (.base rfl)) ?_
      refine jg_nil ?_
      refine jn_keep [0, 1, 2] [] (.cons rfl (.cons rfl (.cons rfl .nil))) .nil ?_
      refine jn_blk ?_
      exact jn_loop (fun a w hi => ⟨(V + 1, Z - 1000000), (by show (Z - 1000000).toNat < Z.toNat; omega), (⟨by omega, by omega, by omega⟩), (Sub.inv ⟨(by repeat (first | exact SubS_nil | refine SubS_cons rfl (by first | rfl | (simp; done) | assumption) ?_)), (by repeat (first | exact SubH_nil | refine SubH_cons rfl (by first | rfl | (simp; done) | assumption) ?_))⟩ hi)⟩)
    · have h4 := of_decide_eq_false h4
      refine j_exit (je_seq (je_loop (je_blk (jn_seq (j_seq (j_seq ?_))))))
      refine j_region ?_
      refine jg_adr _ rfl _ rfl rfl (op_move (.base rfl)) ?_
      refine jg_adr _ rfl _ rfl rfl (op_geq (.base rfl) (.base rfl)) ?_
      refine jg_nil ?_
      refine jn_keep [0, 1, 2, 20] [] (.cons rfl (.cons rfl (.cons rfl (.cons rfl .nil)))) .nil ?_
      refine jn_seq ?_
      refine j_cond rfl (fun h7 => ?_) (fun h7 => ?_)
      · have h7 := of_decide_eq_true h7
        refine j_seq ?_
        refine j_region ?_
        refine jg_adr _ rfl _ rfl rfl (op_move (.base rfl)) ?_
        refine jg_adr _ rfl _ rfl rfl (op_move (.base rfl)) ?_
        refine jg_adr _ rfl _ rfl rfl (op_move (.base rfl)) ?_
        refine jg_adr _ rfl _ rfl rfl (op_call (rrounded_I (by omega) (by omega)) (.cons (.base rfl) (.cons (.base rfl) (.cons (.base rfl) (.cons (.base rfl) (.cons (.base rfl) .nil))))) rfl rfl) ?_
        refine jg_adr _ rfl _ rfl rfl (op_assign (.base rfl)) ?_
        refine jg_nil ?_
        refine jn_keep [6] [] (.cons rfl .nil) .nil ?_
        refine jn_seq (j_ret (jr_seq ?_))
        exact jr_fin1 Try.results53 (res_tmp rfl) rfl (ri (by rw [← q1]; exact tvR_pos (by omega) (by omega)))
      · have h7 := of_decide_eq_false h7
        refine j_skip (jn_seq (j_seq (j_seq ?_)))
        refine j_region ?_
        refine jg_adr _ rfl _ rfl rfl (op_move (.base rfl)) ?_
        refine jg_adr _ rfl _ rfl rfl (op_eql (.base rfl) (.base rfl)) ?_
        refine jg_nil ?_
        refine jn_keep [0, 1, 2, 26] [] (.cons rfl (.cons rfl (.cons rfl (.cons rfl .nil)))) .nil ?_
        refine jn_seq ?_
        refine j_cond rfl (fun h9 => ?_) (fun h9 => ?_)
        · have h9 := beq_iff_eq.1 h9
          refine j_seq ?_
          refine j_region ?_
          refine jg_adr _ rfl _ rfl rfl (op_move (.base rfl)) ?_
          refine jg_adr _ rfl _ rfl rfl (op_assign (.base rfl)) ?_
          refine jg_nil ?_
          refine jn_keep [6] [] (.cons rfl .nil) .nil ?_
          refine jn_seq (j_ret (jr_seq ?_))
          exact jr_fin1 Try.results53 (res_tmp rfl) rfl (ri (by rw [← q1, h9]; exact tvR_zero (by omega)))
        · have h9 := beq_eq_false_iff_ne.1 h9
          refine j_skip (jn_seq (j_seq ?_))
          refine j_region ?_
          refine jg_adr _ rfl _ rfl rfl (op_move (.base rfl)) ?_
          refine jg_adr _ rfl _ rfl rfl (op_neg (.base rfl) (w64 (by omega))) ?_
          refine jg_adr _ rfl _ rfl rfl (op_sub (.base rfl) (.base rfl) (w64 (by omega))) ?_
          refine jg_adr _ rfl _ rfl rfl (op_move (.base rfl)) ?_
          refine jg_adr _ rfl _ rfl rfl (op_sub (.base rfl) (.base rfl) (w64 (by omega))) ?_
          refine jg_adr _ rfl _ rfl rfl (op_move (.base rfl)) ?_
          refine jg_adr _ rfl _ rfl rfl (op_call (rrounded_I (by omega) (by omega)) (.cons (.base rfl) (.cons (.base rfl) (.cons (.base rfl) (.cons (.base rfl) (.cons (.base rfl) .nil))))) rfl rfl) ?_
          refine jg_adr _ rfl _ rfl rfl (op_assign (.base rfl)) ?_
          refine jg_nil ?_
          refine jn_keep [6] [] (.cons rfl .nil) .nil ?_
          refine jn_seq (j_ret ?_)
          exact jr_fin1 Try.results53 (res_tmp rfl) rfl (ri (by rw [← q1]; exact tvR_neg (by omega) (by omega)))

end Go.Proofs.Ytcdkmhmlpjnfeaa
