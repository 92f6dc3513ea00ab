import Derived.Test.YtemcooggkcneiaaP16n
namespace Go.Proofs.Ytemcooggkcneiaa
open Go.Eng
set_option maxRecDepth 100000
set_option maxHeartbeats 4000000
set_option linter.unusedVariables false
set_option linter.unusedSimpArgs false


theorem rdy_dirs {s : TScope} {l : List Int} {x : Int} (h0 : 0 ≤ x) (h1 : x < scN s) : rdyB (allD s) l x = (decide (x ∉ l) && decide (∀ e ∈ dirs s x, e ∈ l)) := by
  unfold rdyB; rw [allD_rw s h0 h1]
  congr 1
  rw [Bool.eq_iff_iff, List.all_eq_true, decide_eq_true_iff]
  simp only [decide_eq_true_eq]
theorem wnt_insU {s : TScope} {d x : Int} (h : inN (scN s) d = true) : decide (x ∈ insU d (trns s d)) = wnt s d x := by
  unfold wnt trns; rw [if_pos h]; rw [Bool.eq_iff_iff, decide_eq_true_iff, decide_eq_true_iff, insU_mem]
theorem trns_len (s : TScope) (d : Int) : (trns s d).length ≤ scN s := by rw [← trR_trns]; exact trR_len (fd16 s) d _

theorem revalOrder_ok (s : TScope) (hL : Lim s) : Ct Try.prog 10 [.tv rScope s] (.tup2 (.tv (rSlice (rInt .i64)) (ordV (scN s) (allD s)).1) (.raw (.int .i64 (ordV (scN s) (allD s)).2))) := by
  refine ct_intro Try.func10 rfl rfl Try.ntmps10 rfl rfl ?_
  intro w0 ok0
  have hN : scN s = s.2.2.2.1.length := rfl
  have hN14 := hL.1
  refine j_seq ?_
  refine j_region ?_
  refine jg_os _ rfl (op_box (.tv (.base rfl)) rfl rfl rfl) ?_
  refine jg_adr _ rfl _ rfl rfl (op_assign (.base rfl)) ?_
  refine jg_adr _ rfl _ rfl rfl (op_assign (.base rfl)) ?_
  refine jg_nil ?_
  refine jn_keep [1] [1] (.cons rfl .nil) (.cons rfl .nil) ?_
  refine jn_seq (j_seq ?_)
  refine j_region ?_
  refine jg_adr _ rfl _ rfl rfl (op_assign (.base rfl)) ?_
  refine jg_nil ?_
  refine jn_keep [1, 4] [1] (.cons rfl (.cons rfl .nil)) (.cons rfl .nil) ?_
  refine jn_seq (j_seq (j_block ?_))
  refine j_vac 70 4 (rInt .i64) rfl rfl rfl ?_
  refine j_loopp (ι := Nat) (fun k => ⟨[(1, .optr 1 rScope.n 0 0), (4, .own 70 (rInt .i64).n 0 (ordR (scN s) (allD s) k).length)], [(1, ⟨rScope, [s]⟩), (70, ⟨rInt .i64, (ordR (scN s) (allD s) k)⟩)]⟩) (fun k => k ≤ scN s ∧ (ordR (scN s) (allD s) k).length = k) (fun k => scN s - k) 0 (⟨Nat.zero_le _, rfl⟩) (fun a w hi => (Sub.inv ⟨(by repeat (first | exact SubS_nil | refine SubS_cons rfl (by first | rfl | (simp; done) | assumption) ?_)), (by repeat (first | exact SubH_nil | refine SubH_cons rfl (by first | rfl | (simp; done) | assumption) ?_))⟩ hi)) ?_
  rintro k ⟨hk, hol⟩
  refine j_seq (j_seq ?_)
  refine j_region ?_
  refine jg_adr _ rfl _ rfl rfl (op_move (.base rfl)) ?_
  refine jg_adr _ rfl _ rfl rfl (op_len_own Try.underlying28 (.base rfl)) ?_
  refine jg_adr _ rfl _ rfl rfl (op_ofield fld25_3 (.base rfl)) ?_
  refine jg_adr _ rfl _ rfl rfl (op_oload ty22 (.base rfl) rfl rfl ln25_3) ?_
  refine jg_adr _ rfl _ rfl rfl (op_len Try.underlying22 (.base rfl)) ?_
  refine jg_adr _ rfl _ rfl rfl (op_lss (.base rfl) (.base rfl)) ?_
  refine jg_nil ?_
  refine jn_keep [1, 4, 11] [1, 70] (.cons rfl (.cons rfl (.cons rfl .nil))) (.cons rfl (.cons rfl .nil)) ?_
  refine jn_seq ?_
  refine j_cond rfl (fun h2 => ?_) (fun h2 => ?_)
  · have h2 : k < scN s := by simp at h2; omega
    refine j_skip (jn_seq (j_block (j_seq ?_)))
    refine j_region ?_
    refine jg_adr _ rfl _ rfl rfl (op_assign (.base rfl)) ?_
    refine jg_nil ?_
    refine jn_keep [1, 4, 5] [1, 70] (.cons rfl (.cons rfl (.cons rfl .nil))) (.cons rfl (.cons rfl .nil)) ?_
    refine jn_seq (j_seq (j_block ?_))
    refine j_loopp (ι := Nat) (fun x => ⟨[(1, .optr 1 rScope.n 0 0), (4, .own 70 (rInt .i64).n 0 (ordR (scN s) (allD s) k).length), (5, .raw (.int .i64 ((x : Nat))))], [(1, ⟨rScope, [s]⟩), (70, ⟨rInt .i64, (ordR (scN s) (allD s) k)⟩)]⟩) (fun x => x ≤ scN s ∧ ∀ y : Int, 0 ≤ y → y < x → rdyB (allD s) (ordR (scN s) (allD s) k) y = false) (fun x => scN s - x) 0 (⟨Nat.zero_le _, fun y h0 h1 => by omega⟩) (fun a w hi => (Sub.inv ⟨(by repeat (first | exact SubS_nil | refine SubS_cons rfl (by first | rfl | (simp; done) | assumption) ?_)), (by repeat (first | exact SubH_nil | refine SubH_cons rfl (by first | rfl | (simp; done) | assumption) ?_))⟩ hi)) ?_
    rintro x ⟨hx, hno⟩
    refine j_seq (j_seq ?_)
    refine j_region ?_
    refine jg_adr _ rfl _ rfl rfl (op_move (.base rfl)) ?_
    refine jg_adr _ rfl _ rfl rfl (op_ofield fld25_3 (.base rfl)) ?_
    refine jg_adr _ rfl _ rfl rfl (op_oload ty22 (.base rfl) rfl rfl ln25_3) ?_
    refine jg_adr _ rfl _ rfl rfl (op_len Try.underlying22 (.base rfl)) ?_
    refine jg_adr _ rfl _ rfl rfl (op_lss (.base rfl) (.base rfl)) ?_
    refine jg_adr _ rfl _ rfl rfl (op_move (.base rfl)) ?_
    refine jg_gd _ _ _ _ _ _ rfl rfl rfl rfl rfl (fun hg => op_move (.base rfl)) ?_
    refine jg_gd _ _ _ _ _ _ rfl rfl rfl rfl rfl (fun hg => op_move (.base rfl)) ?_
    refine jg_gd _ _ _ _ _ _ rfl rfl rfl rfl rfl (fun hg => op_callb (has_ok _ _) (.own (.gd rfl hg) rfl (by first | omega | (simp; try omega)) (.cons (.gd rfl hg) rfl .nil)) flat_raw) ?_
    refine jg_gd _ _ _ _ _ _ rfl rfl rfl rfl rfl (fun hg => op_move (.gd rfl hg)) ?_
    refine jg_gd2 _ _ _ _ _ _ _ rfl rfl rfl rfl rfl (fun hg => op_oload ty25 (.base rfl) rfl rfl (Lens.id _)) ?_
    refine jg_gd2 _ _ _ _ _ _ _ rfl rfl rfl rfl rfl (fun hg => op_move (.base rfl)) ?_
    refine jg_gd2 _ _ _ _ _ _ _ rfl rfl rfl rfl rfl (fun hg => op_move (.base rfl)) ?_
    refine jg_gd2 _ _ _ _ _ _ _ rfl rfl rfl rfl rfl (fun hg => op_callb (ready_ok s _ _ hL) (.cons (.gd rfl hg) rfl (.cons (.gd rfl hg) rfl (.own (.gd rfl hg) rfl (by first | omega | (simp; try omega)) .nil))) flat_raw) ?_
    refine jg_gd2 _ _ _ _ _ _ _ rfl rfl rfl rfl rfl (fun hg => op_not (.gd rfl hg)) ?_
    refine jg_gd _ _ _ _ _ _ rfl rfl rfl rfl rfl (fun hg => op_pick_or (.gd rfl hg) (.base rfl) rfl (by intro h; first | (rw [h]; rfl) | (rw [hg, h]; rfl) | (rw [h, hg]; rfl) | simp_all)) ?_
    refine jg_adr _ rfl _ rfl rfl (op_pick_and (.base rfl) (.base rfl) rfl (by intro h; first | (rw [h]; rfl) | (rw [hg, h]; rfl) | (rw [h, hg]; rfl) | simp_all)) ?_
    refine jg_nil ?_
    refine jn_keep [1, 4, 5, 28] [1, 70] (.cons rfl (.cons rfl (.cons rfl (.cons rfl .nil)))) (.cons rfl (.cons rfl .nil)) ?_
    refine jn_seq ?_
    refine j_cond rfl (fun h4 => ?_) (fun h4 => ?_)
    · simp at h4
      obtain ⟨h4a, h4b⟩ := h4
      have h4c : rdyB (allD s) (ordR (scN s) (allD s) k) (x : Int) = false := by rw [rdy_dirs (by omega) (by omega)]; simp; intro hnm; rcases h4b with q | q; exact absurd q hnm; exact q
      have hno1 : ∀ y : Int, 0 ≤ y → y < ((x + 1 : Nat) : Int) → rdyB (allD s) (ordR (scN s) (allD s) k) y = false := fun y a b => by
        by_cases e : y = (x : Int)
        · rw [e]; exact h4c
        · exact hno y a (by omega)
      refine j_skip (jn_seq (j_block ?_))
      refine j_region ?_
      refine jg_adr _ rfl _ rfl rfl (op_move (.base rfl)) ?_
      refine jg_adr _ rfl _ rfl rfl (op_add (.base rfl) (.base rfl) (w64 (by omega))) ?_
      refine jg_adr _ rfl _ rfl rfl (op_assign (.base rfl)) ?_
      refine jg_nil ?_
      refine jn_keep [1, 4, 5] [1, 70] (.cons rfl (.cons rfl (.cons rfl .nil))) (.cons rfl (.cons rfl .nil)) ?_
      refine jn_blk ?_
      exact jn_loop (fun a w hi => ⟨x + 1, (by first | omega | (simp; omega)), (⟨by omega, hno1⟩), Sub.inv ⟨(by repeat (first | exact SubS_nil | refine SubS_cons rfl (by first | rfl | (simp; done) | assumption) ?_)), (by repeat (first | exact SubH_nil | refine SubH_cons rfl (by first | rfl | (simp; done) | assumption) ?_))⟩ hi⟩)
    · simp at h4
      refine j_exit (je_seq (je_loop (je_blk (jn_seq (j_seq (j_seq ?_))))))
      refine j_region ?_
      refine jg_adr _ rfl _ rfl rfl (op_move (.base rfl)) ?_
      refine jg_adr _ rfl _ rfl rfl (op_ofield fld25_3 (.base rfl)) ?_
      refine jg_adr _ rfl _ rfl rfl (op_oload ty22 (.base rfl) rfl rfl ln25_3) ?_
      refine jg_adr _ rfl _ rfl rfl (op_len Try.underlying22 (.base rfl)) ?_
      refine jg_adr _ rfl _ rfl rfl (op_eql (.base rfl) (.base rfl)) ?_
      refine jg_nil ?_
      refine jn_keep [1, 4, 5, 35] [1, 70] (.cons rfl (.cons rfl (.cons rfl (.cons rfl .nil)))) (.cons rfl (.cons rfl .nil)) ?_
      refine jn_seq ?_
      refine j_cond rfl (fun h6 => ?_) (fun h6 => ?_)
      · have h6 : x = scN s := by simp at h6; omega
        have hnn : nxt (scN s) (allD s) (ordR (scN s) (allD s) k) = none := nxt_none.2 (fun y a b => hno y a (by omega))
        have hst := ordR_stop hnn (scN s) hk
        refine j_seq ?_
        refine j_region ?_
        refine jg_adr _ rfl _ rfl rfl (op_assign (.base rfl)) ?_
        refine jg_adr _ rfl _ rfl rfl (op_assign (.base rfl)) ?_
        refine jg_nil ?_
        refine jn_keep [2, 3] [] (.cons rfl (.cons rfl .nil)) .nil ?_
        refine jn_seq (j_ret (jr_seq (jr_blk (jr_loop (jr_blk (jr_seq ?_))))))
        exact jr_fin2 Try.results10 (res_nil rfl) (res_tmp rfl) ⟨rfl, rfl⟩ (by unfold ordV; rw [hst, if_pos (by omega)])
      · have h6 : x < scN s := by simp at h6; omega
        have hnx : nxt (scN s) (allD s) (ordR (scN s) (allD s) k) = some (x : Int) := nxt_some.2 ⟨by omega, by omega, by rw [rdy_dirs (by omega) (by omega)]; simpa using h4 h6, fun y a b => hno y a b⟩
        have hos : ordR (scN s) (allD s) (k + 1) = (ordR (scN s) (allD s) k) ++ [(x : Int)] := by rw [ordR, hnx]
        refine j_skip (jn_seq ?_)
        refine j_region ?_
        refine jg_adr _ rfl _ rfl rfl (op_move (.base rfl)) ?_
        refine jg_adr _ rfl _ rfl rfl (op_move (.base rfl)) ?_
        refine jg_adr _ rfl _ rfl rfl (op_bslice (rt := (rInt .i64)) Try.underlying28 ty3 z3 rfl (.cons (.raw (.base rfl) rfl) .nil) rfl rfl) ?_
        refine jg_os _ rfl (op_append [1] Try.underlying28 ty3 z3 rfl by3 (.base rfl) rfl (by (try simp); try omega) (.tv (.base rfl)) (by unfold maxLen; (try simp); try omega) (by (try simp); try omega) rfl (.cons rfl .nil) rfl) ?_
        refine jg_adr _ rfl _ rfl rfl (op_assign (.base rfl)) ?_
        refine jg_nil ?_
        refine jn_keep [1, 4] [1, 70] (.cons rfl (.cons rfl .nil)) (.cons rfl (.cons rfl .nil)) ?_
        refine jn_blk ?_
        exact jn_loop (fun a w hi => ⟨k + 1, (by first | omega | (simp; omega)), (⟨by omega, by rw [hos, List.length_append, hol]; rfl⟩), Sub.inv ⟨(by repeat (first | exact SubS_nil | refine SubS_cons rfl (by first | rfl | (simp; done) | assumption | (refine congrArg (SV.own 70 (rInt .i64).n 0) ?_; first | rfl | (rw [hos]; simp; done))) ?_)), (by repeat (first | exact SubH_nil | refine SubH_cons rfl (by first | rfl | (simp; done) | assumption | (refine congrArg (HB.mk (rInt .i64)) ?_; first | rfl | (rw [hos]; (try simp only [List.drop_zero, List.take_length]); first | done | rfl | (simp; done); done))) ?_))⟩ hi⟩)
  · have h2 : k = scN s := by simp at h2; omega
    subst h2
    refine j_exit (je_seq (je_loop (je_blk (jn_seq (j_seq ?_)))))
    refine j_region ?_
    refine jg_adr _ rfl _ rfl rfl (op_move (.base rfl)) ?_
    refine jg_adr _ rfl _ rfl rfl (op_assign (.base rfl)) ?_
    refine jg_adr _ rfl _ rfl rfl (op_assign (.base rfl)) ?_
    refine jg_nil ?_
    refine jn_keep [2, 3] [70] (.cons rfl (.cons rfl .nil)) (.cons rfl .nil) ?_
    refine jn_seq (j_ret ?_)
    refine jr_seal (rt := rInt .i64) 70 2 (dropH 70 _) rfl rfl (by simp) (dropH_sub 70 _) (dropH_no 70 _) ?_
    exact jr_fin2 Try.results10 (res_tmp rfl) (res_tmp rfl) ⟨rfl, rfl⟩ (by unfold ordV; rw [if_neg (by omega), List.drop_zero, List.take_length])

theorem reachI_ok (s : TScope) (a b t : Int) (h0 : 0 ≤ t) (ht : t ≤ 14) (hL : Lim s) : Ct Try.prog 31 [.tv rScope s, .raw (.int .i64 a), .raw (.int .i64 b), .raw (.int .i64 t)] (.raw (.bool (decide (b ∈ frR (dirs s) a t.toNat)))) := by
  have := reach_ok s a b t.toNat (by omega) hL
  rw [show ((t.toNat : Nat) : Int) = t by omega] at this; exact this

theorem rfindCycle_ok (s : TScope) (hL : Lim s) : Ct Try.prog 13 [.tv rScope s] (.tv (rSlice (rInt .i64)) (cycF (scN s) (allD s))) := by
  refine ct_intro Try.func13 rfl rfl Try.ntmps13 rfl rfl ?_
  intro w0 ok0
  have hN : scN s = s.2.2.2.1.length := rfl
  have hN14 := hL.1
  refine j_seq ?_
  refine j_region ?_
  refine jg_os _ rfl (op_box (.tv (.base rfl)) rfl rfl rfl) ?_
  refine jg_adr _ rfl _ rfl rfl (op_assign (.base rfl)) ?_
  refine jg_nil ?_
  refine jn_keep [1] [1] (.cons rfl .nil) (.cons rfl .nil) ?_
  refine jn_seq (j_seq (j_seq ?_))
  refine j_region ?_
  refine jg_adr _ rfl _ rfl rfl (op_assign (.base rfl)) ?_
  refine jg_nil ?_
  refine jn_keep [1, 3] [1] (.cons rfl (.cons rfl .nil)) (.cons rfl .nil) ?_
  refine jn_seq (j_block ?_)
  refine j_loopp (ι := Nat) (fun L => ⟨[(1, .optr 1 rScope.n 0 0), (3, .raw (.int .i64 ((L : Nat))))], [(1, ⟨rScope, [s]⟩)]⟩) (fun L => L ≤ scN s + 1 ∧ 1 ≤ L ∧ (∀ L' (a' : Nat), 1 ≤ L' → L' < L → a' < scN s → ¬ Wk (dirs s) (a' : Int) L' (a' : Int))) (fun L => scN s + 1 - L) 1 (⟨by omega, Nat.le_refl _, fun L a h1 h2 => by omega⟩) (fun a w hi => (Sub.inv ⟨(by repeat (first | exact SubS_nil | refine SubS_cons rfl (by first | rfl | (simp; done) | assumption) ?_)), (by repeat (first | exact SubH_nil | refine SubH_cons rfl (by first | rfl | (simp; done) | assumption) ?_))⟩ hi)) ?_
  rintro L ⟨hL1, hL2, hmL⟩
  refine j_seq (j_seq ?_)
  refine j_region ?_
  refine jg_adr _ rfl _ rfl rfl (op_move (.base rfl)) ?_
  refine jg_adr _ rfl _ rfl rfl (op_ofield fld25_3 (.base rfl)) ?_
  refine jg_adr _ rfl _ rfl rfl (op_oload ty22 (.base rfl) rfl rfl ln25_3) ?_
  refine jg_adr _ rfl _ rfl rfl (op_len Try.underlying22 (.base rfl)) ?_
  refine jg_adr _ rfl _ rfl rfl (op_leq (.base rfl) (.base rfl)) ?_
  refine jg_nil ?_
  refine jn_keep [1, 3, 12] [1] (.cons rfl (.cons rfl (.cons rfl .nil))) (.cons rfl .nil) ?_
  refine jn_seq ?_
  refine j_cond rfl (fun h2 => ?_) (fun h2 => ?_)
  · have h2 : L ≤ scN s := by simp at h2; omega
    refine j_skip (jn_seq (j_seq (j_block (j_seq ?_))))
    refine j_region ?_
    refine jg_adr _ rfl _ rfl rfl (op_assign (.base rfl)) ?_
    refine jg_nil ?_
    refine jn_keep [1, 3, 4] [1] (.cons rfl (.cons rfl (.cons rfl .nil))) (.cons rfl .nil) ?_
    refine jn_seq (j_block ?_)
    refine j_loopp (ι := Nat) (fun v => ⟨[(1, .optr 1 rScope.n 0 0), (3, .raw (.int .i64 ((L : Nat)))), (4, .raw (.int .i64 ((v : Nat))))], [(1, ⟨rScope, [s]⟩)]⟩) (fun v => v ≤ scN s ∧ ∀ a' : Nat, a' < v → ¬ Wk (dirs s) (a' : Int) L (a' : Int)) (fun v => scN s - v) 0 (⟨Nat.zero_le _, fun a h => by omega⟩) (fun a w hi => (Sub.inv ⟨(by repeat (first | exact SubS_nil | refine SubS_cons rfl (by first | rfl | (simp; done) | assumption) ?_)), (by repeat (first | exact SubH_nil | refine SubH_cons rfl (by first | rfl | (simp; done) | assumption) ?_))⟩ hi)) ?_
    rintro v ⟨ha, hmA⟩
    refine j_seq (j_seq ?_)
    refine j_region ?_
    refine jg_adr _ rfl _ rfl rfl (op_move (.base rfl)) ?_
    refine jg_adr _ rfl _ rfl rfl (op_ofield fld25_3 (.base rfl)) ?_
    refine jg_adr _ rfl _ rfl rfl (op_oload ty22 (.base rfl) rfl rfl ln25_3) ?_
    refine jg_adr _ rfl _ rfl rfl (op_len Try.underlying22 (.base rfl)) ?_
    refine jg_adr _ rfl _ rfl rfl (op_lss (.base rfl) (.base rfl)) ?_
    refine jg_nil ?_
    refine jn_keep [1, 3, 4, 19] [1] (.cons rfl (.cons rfl (.cons rfl (.cons rfl .nil)))) (.cons rfl .nil) ?_
    refine jn_seq ?_
    refine j_cond rfl (fun h5 => ?_) (fun h5 => ?_)
    · have h5 : v < scN s := by simp at h5; omega
      refine j_skip (jn_seq (j_seq (j_block (j_seq (j_seq ?_)))))
      refine j_region ?_
      refine jg_adr _ rfl _ rfl rfl (op_oload ty25 (.base rfl) rfl rfl (Lens.id _)) ?_
      refine jg_adr _ rfl _ rfl rfl (op_move (.base rfl)) ?_
      refine jg_adr _ rfl _ rfl rfl (op_move (.base rfl)) ?_
      refine jg_adr _ rfl _ rfl rfl (op_move (.base rfl)) ?_
      refine jg_adr _ rfl _ rfl rfl (op_call (reach_ok s _ _ _ (by omega) hL) (.cons (.base rfl) (.cons (.base rfl) (.cons (.base rfl) (.cons (.base rfl) .nil)))) rfl rfl) ?_
      refine jg_adr _ rfl _ rfl rfl (op_not (.base rfl)) ?_
      refine jg_nil ?_
      refine jn_keep [1, 3, 4, 27] [1] (.cons rfl (.cons rfl (.cons rfl (.cons rfl .nil)))) (.cons rfl .nil) ?_
      refine jn_seq ?_
      refine j_cond rfl (fun h7 => ?_) (fun h7 => ?_)
      · have h7 : ¬ Wk (dirs s) (v : Int) L (v : Int) := fun q => (by simp at h7; exact h7 (frR_mem.2 q))
        have hmA1 : ∀ a' : Nat, a' < v + 1 → ¬ Wk (dirs s) (a' : Int) L (a' : Int) := fun a2 g => by
          by_cases e : a2 = v
          · rw [e]; exact h7
          · exact hmA a2 (by omega)
        refine j_exit (je_seq (je_blk (jn_seq ?_)))
        refine j_region ?_
        refine jg_adr _ rfl _ rfl rfl (op_move (.base rfl)) ?_
        refine jg_adr _ rfl _ rfl rfl (op_add (.base rfl) (.base rfl) (w64 (by omega))) ?_
        refine jg_adr _ rfl _ rfl rfl (op_assign (.base rfl)) ?_
        refine jg_nil ?_
        refine jn_keep [1, 3, 4] [1] (.cons rfl (.cons rfl (.cons rfl .nil))) (.cons rfl .nil) ?_
        exact jn_loop (fun a w hi => ⟨v + 1, (by first | omega | (simp; omega)), (⟨by omega, hmA1⟩), Sub.inv ⟨(by repeat (first | exact SubS_nil | refine SubS_cons rfl (by first | rfl | (simp; done) | assumption) ?_)), (by repeat (first | exact SubH_nil | refine SubH_cons rfl (by first | rfl | (simp; done) | assumption) ?_))⟩ hi⟩)
      · have h7 : Wk (dirs s) (v : Int) L (v : Int) := by simp at h7; exact frR_mem.1 h7
        have hF : Fnd (scN s) (dirs s) L v := ⟨hL2, h2, h5, h7, hmL, hmA⟩
        refine j_skip (jn_seq (j_seq ?_))
        refine j_region ?_
        refine jg_adr _ rfl _ rfl rfl (op_move (.base rfl)) ?_
        refine jg_os _ rfl (op_obslice (rt := rInt .i64) Try.underlying28 ty3 z3 rfl (.cons (.raw (.base rfl) rfl) .nil) rfl rfl rfl rfl rfl) ?_
        refine jg_adr _ rfl _ rfl rfl (op_assign (.base rfl)) ?_
        refine jg_nil ?_
        refine jn_keep [1, 3, 4, 5] [1, 29] (.cons rfl (.cons rfl (.cons rfl (.cons rfl .nil)))) (.cons rfl (.cons rfl .nil)) ?_
        refine jn_seq (j_seq (j_block ?_))
        refine j_loopp (ι := Nat) (fun m => ⟨[(1, .optr 1 rScope.n 0 0), (3, .raw (.int .i64 ((L : Nat)))), (4, .raw (.int .i64 ((v : Nat)))), (5, .own 29 (rInt .i64).n 0 (pthR (dirs s) L (v : Int) m).length)], [(1, ⟨rScope, [s]⟩), (29, ⟨rInt .i64, (pthR (dirs s) L (v : Int) m)⟩)]⟩) (fun m => m + 1 ≤ L) (fun m => L - m) 0 (hL2) (fun a w hi => (Sub.inv ⟨(by repeat (first | exact SubS_nil | refine SubS_cons rfl (by first | rfl | (simp; done) | assumption) ?_)), (by repeat (first | exact SubH_nil | refine SubH_cons rfl (by first | rfl | (simp; done) | assumption) ?_))⟩ hi)) ?_
        rintro m hm
        have hpl := pthR_len (f := dirs s) L (v : Int) m
        refine j_seq (j_seq ?_)
        refine j_region ?_
        refine jg_adr _ rfl _ rfl rfl (op_move (.base rfl)) ?_
        refine jg_adr _ rfl _ rfl rfl (op_len_own Try.underlying28 (.base rfl)) ?_
        refine jg_adr _ rfl _ rfl rfl (op_move (.base rfl)) ?_
        refine jg_adr _ rfl _ rfl rfl (op_lss (.base rfl) (.base rfl)) ?_
        refine jg_nil ?_
        refine jn_keep [1, 3, 4, 5, 33] [1, 29] (.cons rfl (.cons rfl (.cons rfl (.cons rfl (.cons rfl .nil))))) (.cons rfl (.cons rfl .nil)) ?_
        refine jn_seq ?_
        refine j_cond rfl (fun h9 => ?_) (fun h9 => ?_)
        · have h9 : m + 1 < L := by rw [hpl] at h9; simp at h9; omega
          have hDl := (fd16 s).len (lstR (dirs s) L (v : Int) m)
          refine j_skip (jn_seq (j_block (j_seq ?_)))
          refine j_draw mo (by kernel_rfl) (
            AS.cons _ _ rfl (ga_adr rfl rfl rfl (op_oload ty25 (.base rfl) rfl rfl (Lens.id _))) (
              AS.cons _ _ rfl (ga_adr rfl rfl rfl (op_move (.base rfl))) (
              AS.cons _ _ rfl (ga_adr rfl rfl rfl (op_move (.base rfl))) (
              AS.cons _ _ rfl (ga_adr rfl rfl rfl (op_len_own Try.underlying28 (.base rfl))) (
              AS.cons _ _ rfl (ga_adr rfl rfl rfl (op_sub (.base rfl) (.base rfl) (w64 (by omega)))) (
              AS.cons _ _ rfl (ga_adr rfl rfl rfl (op_oindex Try.underlying28 ty3 (.base rfl) (.base rfl) (show (((pthR (dirs s) L (v : Int) m).length : Nat) : Int) - 1 = ((m : Nat) : Int) by rw [hpl]; omega) (by first | omega | (simp; done) | (simp; omega)))) (
              AS.cons _ _ rfl (ga_adr rfl rfl rfl (op_oload ty3 (.base rfl) rfl (show (pthR (dirs s) L (v : Int) m)[0 + m]? = some (lstR (dirs s) L (v : Int) m) by rw [Nat.zero_add]; exact pthR_last _ _ _) (Lens.id _))) (
              AS.cons _ _ rfl (ga_adr rfl rfl rfl (op_call (rdirect_ok s _ hL) (.cons (.base rfl) (.cons (.base rfl) .nil)) rfl rfl)) (
              AS.cons _ _ rfl (ga_adr rfl rfl rfl (op_assign (.base rfl))) (
              AS.nil)))))))))) ?_
          refine jn_keep [1, 3, 4, 5, 6] [1, 29] (.cons rfl (.cons rfl (.cons rfl (.cons rfl (.cons rfl .nil))))) (.cons rfl (.cons rfl .nil)) ?_
          refine jn_seq (j_seq ?_)
          refine j_region ?_
          refine jg_adr _ rfl _ rfl rfl (op_assign (.base rfl)) ?_
          refine jg_nil ?_
          refine jn_keep [1, 3, 4, 5, 6, 7] [1, 29] (.cons rfl (.cons rfl (.cons rfl (.cons rfl (.cons rfl (.cons rfl .nil)))))) (.cons rfl (.cons rfl .nil)) ?_
          refine jn_seq (j_seq (j_block ?_))
          obtain ⟨e0, he0, hv0⟩ := hF.nx (fd16 s) h9
          refine j_loopp (ι := Nat) (fun j => ⟨[(1, .optr 1 rScope.n 0 0), (3, .raw (.int .i64 ((L : Nat)))), (4, .raw (.int .i64 ((v : Nat)))), (5, .own 29 (rInt .i64).n 0 (pthR (dirs s) L (v : Int) m).length), (6, .tv (rSlice (rInt .i64)) (dirs s (lstR (dirs s) L (v : Int) m))), (7, .raw (.int .i64 ((j : Nat))))], [(1, ⟨rScope, [s]⟩), (29, ⟨rInt .i64, (pthR (dirs s) L (v : Int) m)⟩)]⟩) (fun j => ∀ i, (h : i < (dirs s (lstR (dirs s) L (v : Int) m)).length) → i < j → decide ((v : Int) ∈ frR (dirs s) ((dirs s (lstR (dirs s) L (v : Int) m))[i]) (L - (m + 1))) = false) (fun j => (dirs s (lstR (dirs s) L (v : Int) m)).length - j) 0 (fun i h g => by omega) (fun a w hi => (Sub.inv ⟨(by repeat (first | exact SubS_nil | refine SubS_cons rfl (by first | rfl | (simp; done) | assumption) ?_)), (by repeat (first | exact SubH_nil | refine SubH_cons rfl (by first | rfl | (simp; done) | assumption) ?_))⟩ hi)) ?_
          rintro j hno
          have hjl : j < (dirs s (lstR (dirs s) L (v : Int) m)).length := by
            obtain ⟨i, hi, e⟩ := List.mem_iff_getElem.1 he0
            rcases Nat.lt_or_ge i j with c | c
            · have := hno i hi c; rw [e, hv0] at this; cases this
            · omega
          have htn : ((L : Int) - (((pthR (dirs s) L (v : Int) m).length : Nat) : Int)).toNat = L - (m + 1) := by rw [hpl]; omega
          refine j_seq (j_seq ?_)
          refine j_draw mo (by kernel_rfl) (
            AS.cons _ _ rfl (ga_adr rfl rfl rfl (op_oload ty25 (.base rfl) rfl rfl (Lens.id _))) (
              AS.cons _ _ rfl (ga_adr rfl rfl rfl (op_move (.base rfl))) (
              AS.cons _ _ rfl (ga_adr rfl rfl rfl (op_move (.base rfl))) (
              AS.cons _ _ rfl (ga_adr rfl rfl rfl (op_index Try.underlying28 ty3 (.base rfl) (.base rfl) rfl (List.getElem?_eq_getElem (by first | omega | (simp; done) | (simp; omega) | (simp at hg; omega))))) (
              AS.cons _ _ rfl (ga_adr rfl rfl rfl (op_load ty3 (.base rfl))) (
              AS.cons _ _ rfl (ga_adr rfl rfl rfl (op_move (.base rfl))) (
              AS.cons _ _ rfl (ga_adr rfl rfl rfl (op_move (.base rfl))) (
              AS.cons _ _ rfl (ga_adr rfl rfl rfl (op_move (.base rfl))) (
              AS.cons _ _ rfl (ga_adr rfl rfl rfl (op_len_own Try.underlying28 (.base rfl))) (
              AS.cons _ _ rfl (ga_adr rfl rfl rfl (op_sub (.base rfl) (.base rfl) (w64 (by omega)))) (
              AS.cons _ _ rfl (ga_adr rfl rfl rfl (op_call (reachI_ok s _ _ _ (by omega) (by omega) hL) (.cons (.base rfl) (.cons (.base rfl) (.cons (.base rfl) (.cons (.base rfl) .nil)))) rfl rfl)) (
              AS.cons _ _ rfl (ga_adr rfl rfl rfl (op_not (.base rfl))) (
              AS.nil))))))))))))) ?_
          refine jn_keep [1, 3, 4, 5, 6, 7, 53] [1, 29] (.cons rfl (.cons rfl (.cons rfl (.cons rfl (.cons rfl (.cons rfl (.cons rfl .nil))))))) (.cons rfl (.cons rfl .nil)) ?_
          refine jn_seq ?_
          refine j_cond rfl (fun h12 => ?_) (fun h12 => ?_)
          · have h12 : decide ((v : Int) ∈ frR (dirs s) ((dirs s (lstR (dirs s) L (v : Int) m))[j]) (L - (m + 1))) = false := by rw [htn] at h12; simpa using h12
            have hno1 : ∀ i, (h : i < (dirs s (lstR (dirs s) L (v : Int) m)).length) → i < j + 1 → decide ((v : Int) ∈ frR (dirs s) ((dirs s (lstR (dirs s) L (v : Int) m))[i]) (L - (m + 1))) = false := fun i hi g => by
              by_cases e : i = j
              · subst e; exact h12
              · exact hno i hi (by omega)
            refine j_skip (jn_seq (j_block ?_))
            refine j_region ?_
            refine jg_adr _ rfl _ rfl rfl (op_move (.base rfl)) ?_
            refine jg_adr _ rfl _ rfl rfl (op_add (.base rfl) (.base rfl) (w64 (by omega))) ?_
            refine jg_adr _ rfl _ rfl rfl (op_assign (.base rfl)) ?_
            refine jg_nil ?_
            refine jn_keep [1, 3, 4, 5, 6, 7] [1, 29] (.cons rfl (.cons rfl (.cons rfl (.cons rfl (.cons rfl (.cons rfl .nil)))))) (.cons rfl (.cons rfl .nil)) ?_
            refine jn_blk ?_
            exact jn_loop (fun a w hi => ⟨j + 1, (by first | omega | (simp; omega)), (hno1), Sub.inv ⟨(by repeat (first | exact SubS_nil | refine SubS_cons rfl (by first | rfl | (simp; done) | assumption) ?_)), (by repeat (first | exact SubH_nil | refine SubH_cons rfl (by first | rfl | (simp; done) | assumption) ?_))⟩ hi⟩)
          · have h12 : decide ((v : Int) ∈ frR (dirs s) ((dirs s (lstR (dirs s) L (v : Int) m))[j]) (L - (m + 1))) = true := by rw [htn] at h12; simpa using h12
            have hls := lstR_at hjl h12 (fun i g => hno i (by omega) g)
            have hos : pthR (dirs s) L (v : Int) (m + 1) = (pthR (dirs s) L (v : Int) m) ++ [(dirs s (lstR (dirs s) L (v : Int) m))[j]] := by rw [pthR_succ, hls]
            refine j_exit (je_seq (je_loop (je_blk (jn_seq ?_))))
            refine j_region ?_
            refine jg_adr _ rfl _ rfl rfl (op_move (.base rfl)) ?_
            refine jg_adr _ rfl _ rfl rfl (op_move (.base rfl)) ?_
            refine jg_adr _ rfl _ rfl rfl (op_move (.base rfl)) ?_
            refine jg_adr _ rfl _ rfl rfl (op_index Try.underlying28 ty3 (.base rfl) (.base rfl) rfl (List.getElem?_eq_getElem (by first | omega | (simp; done) | (simp; omega) | (simp at hg; omega)))) ?_
            refine jg_adr _ rfl _ rfl rfl (op_load ty3 (.base rfl)) ?_
            refine jg_adr _ rfl _ rfl rfl (op_bslice (rt := (rInt .i64)) Try.underlying28 ty3 z3 rfl (.cons (.raw (.base rfl) rfl) .nil) rfl rfl) ?_
            refine jg_os _ rfl (op_append [1, 3, 4] Try.underlying28 ty3 z3 rfl by3 (.base rfl) rfl (by (try simp); try omega) (.tv (.base rfl)) (by unfold maxLen; (try simp); try omega) (by (try simp); try omega) rfl (.cons rfl (.cons rfl (.cons rfl .nil))) rfl) ?_
            refine jg_adr _ rfl _ rfl rfl (op_assign (.base rfl)) ?_
            refine jg_nil ?_
            refine jn_keep [1, 3, 4, 5] [1, 29] (.cons rfl (.cons rfl (.cons rfl (.cons rfl .nil)))) (.cons rfl (.cons rfl .nil)) ?_
            refine jn_blk ?_
            exact jn_loop (fun a w hi => ⟨m + 1, (by first | omega | (simp; omega)), (by omega), Sub.inv ⟨(by repeat (first | exact SubS_nil | refine SubS_cons rfl (by first | rfl | (simp; done) | assumption | (refine congrArg (SV.own 29 (rInt .i64).n 0) ?_; first | rfl | (rw [hos]; simp; done))) ?_)), (by repeat (first | exact SubH_nil | refine SubH_cons rfl (by first | rfl | (simp; done) | assumption | (refine congrArg (HB.mk (rInt .i64)) ?_; first | rfl | (rw [hos]; (try simp only [List.drop_zero, List.take_length]); first | done | rfl | (simp; done); done))) ?_))⟩ hi⟩)
        · have h9 : m + 1 = L := by rw [hpl] at h9; simp at h9; omega
          have hcf := hF.cycF (fd16 s)
          refine j_exit (je_seq (je_loop (je_blk (jn_seq (j_seq ?_)))))
          refine j_region ?_
          refine jg_adr _ rfl _ rfl rfl (op_move (.base rfl)) ?_
          refine jg_adr _ rfl _ rfl rfl (op_assign (.base rfl)) ?_
          refine jg_nil ?_
          refine jn_keep [2] [29] (.cons rfl .nil) (.cons rfl .nil) ?_
          refine jn_seq (j_ret (jr_blk (jr_seq (jr_loop (jr_blk (jr_blk (jr_seq (jr_loop (jr_blk (jr_seq ?_))))))))))
          refine jr_seal (rt := rInt .i64) 29 2 (dropH 29 _) rfl rfl (by simp) (dropH_sub 29 _) (dropH_no 29 _) ?_
          exact jr_fin1 Try.results13 (res_tmp rfl) rfl (congrArg (SV.tv (rSlice (rInt .i64))) (by rw [List.drop_zero, List.take_length, hcf, show m = L - 1 by omega]))
    · have h5 : v = scN s := by simp at h5; omega
      have hmL1 : ∀ L' (a' : Nat), 1 ≤ L' → L' < L + 1 → a' < scN s → ¬ Wk (dirs s) (a' : Int) L' (a' : Int) := fun L2 a2 g1 g2 g3 => by
        by_cases e : L2 = L
        · rw [e]; exact hmA a2 (by omega)
        · exact hmL L2 a2 g1 (by omega) g3
      refine j_exit (je_seq (je_loop (je_blk (jn_blk (jn_seq ?_)))))
      refine j_region ?_
      refine jg_adr _ rfl _ rfl rfl (op_move (.base rfl)) ?_
      refine jg_adr _ rfl _ rfl rfl (op_add (.base rfl) (.base rfl) (w64 (by omega))) ?_
      refine jg_adr _ rfl _ rfl rfl (op_assign (.base rfl)) ?_
      refine jg_nil ?_
      refine jn_keep [1, 3] [1] (.cons rfl (.cons rfl .nil)) (.cons rfl .nil) ?_
      exact jn_loop (fun a w hi => ⟨L + 1, (by first | omega | (simp; omega)), (⟨by omega, by omega, hmL1⟩), Sub.inv ⟨(by repeat (first | exact SubS_nil | refine SubS_cons rfl (by first | rfl | (simp; done) | assumption) ?_)), (by repeat (first | exact SubH_nil | refine SubH_cons rfl (by first | rfl | (simp; done) | assumption) ?_))⟩ hi⟩)
  · have h2 : L = scN s + 1 := by simp at h2; omega
    have hcn := cycF_none (fd16 s) (fun L2 a2 g1 g2 g3 => hmL L2 a2 g1 (by omega) g3)
    refine j_exit (je_seq (je_loop (je_blk (jn_seq (j_seq ?_)))))
    refine j_region ?_
    refine jg_adr _ rfl _ rfl rfl (op_assign (.base rfl)) ?_
    refine jg_nil ?_
    refine jn_keep [2] [] (.cons rfl .nil) .nil ?_
    refine jn_seq (j_ret ?_)
    exact jr_fin1 Try.results13 (res_nil rfl) rfl (congrArg (SV.tv (rSlice (rInt .i64))) hcn.symm)

theorem rmembers_ok (s : TScope) (d : Int) (hL : Lim s) : Ct Try.prog 20 [.tv rScope s, .raw (.int .i64 d)] (.tv (rSlice (rInt .i64)) (mems s d)) := by
  refine ct_intro Try.func20 rfl rfl Try.ntmps20 rfl rfl ?_
  intro w0 ok0
  have hN : scN s = s.2.2.2.1.length := rfl
  have hN14 := hL.1
  refine j_seq ?_
  refine j_region ?_
  refine jg_os _ rfl (op_box (.tv (.base rfl)) rfl rfl rfl) ?_
  refine jg_adr _ rfl _ rfl rfl (op_assign (.base rfl)) ?_
  refine jg_nil ?_
  refine jn_keep [1, 2] [2] (.cons rfl (.cons rfl .nil)) (.cons rfl .nil) ?_
  refine jn_seq (j_seq (j_seq ?_))
  refine j_region ?_
  refine jg_adr _ rfl _ rfl rfl (op_oload ty25 (.base rfl) rfl rfl (Lens.id _)) ?_
  refine jg_adr _ rfl _ rfl rfl (op_move (.base rfl)) ?_
  refine jg_adr _ rfl _ rfl rfl (op_call (is_ok s _) (.cons (.base rfl) (.cons (.base rfl) .nil)) rfl rfl) ?_
  refine jg_adr _ rfl _ rfl rfl (op_not (.base rfl)) ?_
  refine jg_nil ?_
  refine jn_keep [1, 2, 19] [2] (.cons rfl (.cons rfl (.cons rfl .nil))) (.cons rfl .nil) ?_
  refine jn_seq ?_
  refine j_cond rfl (fun h1 => ?_) (fun h1 => ?_)
  · have h1 : inN (scN s) d = false := by simpa using h1
    refine j_seq ?_
    refine j_region ?_
    refine jg_adr _ rfl _ rfl rfl (op_assign (.base rfl)) ?_
    refine jg_nil ?_
    refine jn_keep [4] [] (.cons rfl .nil) .nil ?_
    refine jn_seq (j_ret (jr_seq ?_))
    exact jr_fin1 Try.results20 (res_nil rfl) rfl (congrArg (SV.tv (rSlice (rInt .i64))) (by unfold mems; rw [if_neg (by rw [h1]; decide)]))
  · have h1 : inN (scN s) d = true := by simpa using h1
    have htl := trns_len s d
    refine j_skip (jn_seq (j_seq ?_))
    refine j_region ?_
    refine jg_adr _ rfl _ rfl rfl (op_oload ty25 (.base rfl) rfl rfl (Lens.id _)) ?_
    refine jg_adr _ rfl _ rfl rfl (op_move (.base rfl)) ?_
    refine jg_adr _ rfl _ rfl rfl (op_call (rtrans_ok s _ hL) (.cons (.base rfl) (.cons (.base rfl) .nil)) rfl rfl) ?_
    refine jg_adr _ rfl _ rfl rfl (op_move (.base rfl)) ?_
    refine jg_adr _ rfl _ rfl rfl (op_call (rins16_ok _ _ (by omega)) (.cons (.base rfl) (.cons (.base rfl) .nil)) rfl rfl) ?_
    refine jg_adr _ rfl _ rfl rfl (op_assign (.base rfl)) ?_
    refine jg_nil ?_
    refine jn_keep [2, 5] [2] (.cons rfl (.cons rfl .nil)) (.cons rfl .nil) ?_
    refine jn_seq (j_seq ?_)
    refine j_region ?_
    refine jg_adr _ rfl _ rfl rfl (op_assign (.base rfl)) ?_
    refine jg_nil ?_
    refine jn_keep [2, 5, 6] [2] (.cons rfl (.cons rfl (.cons rfl .nil))) (.cons rfl .nil) ?_
    refine jn_seq (j_seq (j_seq ?_))
    refine j_region ?_
    refine jg_adr _ rfl _ rfl rfl (op_assign (.base rfl)) ?_
    refine jg_nil ?_
    refine jn_keep [2, 5, 6, 7] [2] (.cons rfl (.cons rfl (.cons rfl (.cons rfl .nil)))) (.cons rfl .nil) ?_
    refine jn_seq (j_block ?_)
    refine j_nil 6 (rInt .i64) rfl ?_
    refine j_loopp (ι := Nat) (fun k => ⟨[(2, .optr 2 rScope.n 0 0), (5, .tv (rSlice (rInt .i64)) (insU d (trns s d))), (6, .tv (rSlice (rInt .i64)) (uniqS (accM (wnt s d) ((scR s).take k)))), (7, .raw (.int .i64 ((k : Nat))))], [(2, ⟨rScope, [s]⟩)]⟩) (fun k => k ≤ (scR s).length) (fun k => (scR s).length - k) 0 (Nat.zero_le _) (fun a w hi => Sub.inv ⟨(by repeat (first | exact SubS_nil | refine SubS_cons rfl (by first | rfl | (simp; done) | assumption | exact congrArg (SV.tv (rSlice (rInt .i64))) uniqS_nil.symm) ?_)), (by repeat (first | exact SubH_nil | refine SubH_cons rfl (by first | rfl | (simp; done) | assumption) ?_))⟩ hi) ?_
    rintro k hk
    have hRR : (scR s).length = s.2.2.2.2.length := rfl
    have hal := accM_len (p := wnt s d) hL.2.2 k hk
    have hL2 := hL.2.1
    refine j_seq (j_seq ?_)
    refine j_region ?_
    refine jg_adr _ rfl _ rfl rfl (op_move (.base rfl)) ?_
    refine jg_adr _ rfl _ rfl rfl (op_ofield fld25_4 (.base rfl)) ?_
    refine jg_adr _ rfl _ rfl rfl (op_oload ty23 (.base rfl) rfl rfl ln25_4) ?_
    refine jg_adr _ rfl _ rfl rfl (op_len Try.underlying23 (.base rfl)) ?_
    refine jg_adr _ rfl _ rfl rfl (op_lss (.base rfl) (.base rfl)) ?_
    refine jg_nil ?_
    refine jn_keep [2, 5, 6, 7, 29] [2] (.cons rfl (.cons rfl (.cons rfl (.cons rfl (.cons rfl .nil))))) (.cons rfl .nil) ?_
    refine jn_seq ?_
    refine j_cond rfl (fun h6 => ?_) (fun h6 => ?_)
    · have h6 : k < (scR s).length := by simp at h6; omega
      have hrl := lim_rule hL h6
      have hg1 : (s.2.2.2.2[k]'h6).2.2.2.2.2.1.length ≤ 60 := hrl.1
      have hg2 : (s.2.2.2.2[k]'h6).2.2.2.2.2.2.1.length ≤ 60 := hrl.2
      have hu1 : (uniqS (refs pMem (rlG (scR s)[k]))).length ≤ 60 := Nat.le_trans (ur_len _ _) hrl.1
      have hu2 : (uniqS (refs pMem (rlV (scR s)[k]))).length ≤ 60 := Nat.le_trans (ur_len _ _) hrl.2
      refine j_skip (jn_seq (j_seq (j_block (j_seq (j_seq ?_)))))
      refine j_region ?_
      refine jg_adr _ rfl _ rfl rfl (op_move (.base rfl)) ?_
      refine jg_adr _ rfl _ rfl rfl (op_ofield fld25_4 (.base rfl)) ?_
      refine jg_adr _ rfl _ rfl rfl (op_oload ty23 (.base rfl) rfl rfl ln25_4) ?_
      refine jg_adr _ rfl _ rfl rfl (op_move (.base rfl)) ?_
      refine jg_adr _ rfl _ rfl rfl (op_index Try.underlying23 ty41 (.base rfl) (.base rfl) rfl (List.getElem?_eq_getElem (by first | omega | (simp; done) | (simp; omega) | (simp at hg; omega)))) ?_
      refine jg_adr _ rfl _ rfl rfl (op_field fld41_1 ln41_1 (.base rfl)) ?_
      refine jg_adr _ rfl _ rfl rfl (op_load ty3 (.base rfl)) ?_
      refine jg_adr _ rfl _ rfl rfl (op_call (has_ok _ _) (.cons (.base rfl) (.cons (.base rfl) .nil)) rfl rfl) ?_
      refine jg_adr _ rfl _ rfl rfl (op_not (.base rfl)) ?_
      refine jg_nil ?_
      refine jn_keep [2, 5, 6, 7, 40] [2] (.cons rfl (.cons rfl (.cons rfl (.cons rfl (.cons rfl .nil))))) (.cons rfl .nil) ?_
      refine jn_seq ?_
      refine j_cond rfl (fun h8 => ?_) (fun h8 => ?_)
      · have hwf : wnt s d (rlD (scR s)[k]) = false := by rw [← wnt_insU h1]; simpa using h8
        have hsf := congrArg uniqS (accM_f (p := wnt s d) h6 hwf).symm
        refine j_exit (je_seq (je_blk (jn_seq ?_)))
        refine j_region ?_
        refine jg_adr _ rfl _ rfl rfl (op_move (.base rfl)) ?_
        refine jg_adr _ rfl _ rfl rfl (op_add (.base rfl) (.base rfl) (w64 (by omega))) ?_
        refine jg_adr _ rfl _ rfl rfl (op_assign (.base rfl)) ?_
        refine jg_nil ?_
        refine jn_keep [2, 5, 6, 7] [2] (.cons rfl (.cons rfl (.cons rfl (.cons rfl .nil)))) (.cons rfl .nil) ?_
        first | (have _hh := hsf; exact jn_loop (fun a w hi => ⟨k + 1, (by first | omega | (simp; omega)), (by omega), Sub.inv ⟨(by repeat (first | exact SubS_nil | refine SubS_cons rfl (by first | rfl | (simp; done) | assumption | exact congrArg (SV.tv (rSlice (rInt .i64))) hsf) ?_)), (by repeat (first | exact SubH_nil | refine SubH_cons rfl (by first | rfl | (simp; done) | assumption) ?_))⟩ hi⟩)) | (have _hh := hst; exact jn_loop (fun a w hi => ⟨k + 1, (by first | omega | (simp; omega)), (by omega), Sub.inv ⟨(by repeat (first | exact SubS_nil | refine SubS_cons rfl (by first | rfl | (simp; done) | assumption | exact congrArg (SV.tv (rSlice (rInt .i64))) hst) ?_)), (by repeat (first | exact SubH_nil | refine SubH_cons rfl (by first | rfl | (simp; done) | assumption) ?_))⟩ hi⟩))
      · have hwt : wnt s d (rlD (scR s)[k]) = true := by rw [← wnt_insU h1]; simpa using h8
        refine j_skip (jn_seq (j_seq ?_))
        refine j_region ?_
        refine jg_adr _ rfl _ rfl rfl (op_ofield fld25_4 (.base rfl)) ?_
        refine jg_adr _ rfl _ rfl rfl (op_oload ty23 (.base rfl) rfl rfl ln25_4) ?_
        refine jg_adr _ rfl _ rfl rfl (op_move (.base rfl)) ?_
        refine jg_adr _ rfl _ rfl rfl (op_index Try.underlying23 ty41 (.base rfl) (.base rfl) rfl (List.getElem?_eq_getElem (by first | omega | (simp; done) | (simp; omega) | (simp at hg; omega)))) ?_
        refine jg_adr _ rfl _ rfl rfl (op_field fld41_5 ln41_5 (.base rfl)) ?_
        refine jg_adr _ rfl _ rfl rfl (op_load ty39 (.base rfl)) ?_
        refine jg_adr _ rfl _ rfl rfl (op_call (rrefs_ok _ (by omega)) (.cons (.base rfl) .nil) rfl rfl) ?_
        refine jg_adr _ rfl _ rfl rfl (op_move (.base rfl)) ?_
        refine jg_adr _ rfl _ rfl rfl (op_ext30 (.base rfl)) ?_
        refine jg_adr _ rfl _ rfl rfl (op_ext31 (.base rfl)) ?_
        refine jg_adr _ rfl _ rfl rfl (op_ext32 (.base rfl)) ?_
        refine jg_adr _ rfl _ rfl rfl (op_assign (.base rfl)) ?_
        refine jg_adr _ rfl _ rfl rfl (op_assign (.base rfl)) ?_
        refine jg_adr _ rfl _ rfl rfl (op_assign (.base rfl)) ?_
        refine jg_nil ?_
        refine jn_keep [2, 5, 6, 7, 10] [2] (.cons rfl (.cons rfl (.cons rfl (.cons rfl (.cons rfl .nil))))) (.cons rfl .nil) ?_
        refine jn_seq (j_seq ?_)
        refine j_region ?_
        refine jg_adr _ rfl _ rfl rfl (op_ofield fld25_4 (.base rfl)) ?_
        refine jg_adr _ rfl _ rfl rfl (op_oload ty23 (.base rfl) rfl rfl ln25_4) ?_
        refine jg_adr _ rfl _ rfl rfl (op_move (.base rfl)) ?_
        refine jg_adr _ rfl _ rfl rfl (op_index Try.underlying23 ty41 (.base rfl) (.base rfl) rfl (List.getElem?_eq_getElem (by first | omega | (simp; done) | (simp; omega) | (simp at hg; omega)))) ?_
        refine jg_adr _ rfl _ rfl rfl (op_field fld41_6 ln41_6 (.base rfl)) ?_
        refine jg_adr _ rfl _ rfl rfl (op_load ty39 (.base rfl)) ?_
        refine jg_adr _ rfl _ rfl rfl (op_call (rrefs_ok _ (by omega)) (.cons (.base rfl) .nil) rfl rfl) ?_
        refine jg_adr _ rfl _ rfl rfl (op_move (.base rfl)) ?_
        refine jg_adr _ rfl _ rfl rfl (op_ext30 (.base rfl)) ?_
        refine jg_adr _ rfl _ rfl rfl (op_ext31 (.base rfl)) ?_
        refine jg_adr _ rfl _ rfl rfl (op_ext32 (.base rfl)) ?_
        refine jg_adr _ rfl _ rfl rfl (op_assign (.base rfl)) ?_
        refine jg_adr _ rfl _ rfl rfl (op_assign (.base rfl)) ?_
        refine jg_adr _ rfl _ rfl rfl (op_assign (.base rfl)) ?_
        refine jg_nil ?_
        refine jn_keep [2, 5, 6, 7, 10, 13] [2] (.cons rfl (.cons rfl (.cons rfl (.cons rfl (.cons rfl (.cons rfl .nil)))))) (.cons rfl .nil) ?_
        refine jn_seq (j_seq (j_seq ?_))
        refine j_region ?_
        refine jg_adr _ rfl _ rfl rfl (op_assign (.base rfl)) ?_
        refine jg_nil ?_
        refine jn_keep [2, 5, 6, 7, 10, 13, 14] [2] (.cons rfl (.cons rfl (.cons rfl (.cons rfl (.cons rfl (.cons rfl (.cons rfl .nil))))))) (.cons rfl .nil) ?_
        refine jn_seq (j_block ?_)
        refine j_loopp (ι := Nat) (fun j => ⟨[(2, .optr 2 rScope.n 0 0), (5, .tv (rSlice (rInt .i64)) (insU d (trns s d))), (6, .tv (rSlice (rInt .i64)) (uniqS ((accM (wnt s d) ((scR s).take k)) ++ (uniqS (refs pMem (rlG (scR s)[k]))).take j))), (7, .raw (.int .i64 ((k : Nat)))), (10, .tv (rSlice (rInt .i64)) (uniqS (refs pMem (rlG (scR s)[k])))), (13, .tv (rSlice (rInt .i64)) (uniqS (refs pMem (rlV (scR s)[k])))), (14, .raw (.int .i64 ((j : Nat))))], [(2, ⟨rScope, [s]⟩)]⟩) (fun j => j ≤ (uniqS (refs pMem (rlG (scR s)[k]))).length) (fun j => (uniqS (refs pMem (rlG (scR s)[k]))).length - j) 0 (Nat.zero_le _) (fun a w hi => Sub.inv ⟨(by repeat (first | exact SubS_nil | refine SubS_cons rfl (by first | rfl | (simp; done) | assumption | exact congrArg (SV.tv (rSlice (rInt .i64))) (by simp)) ?_)), (by repeat (first | exact SubH_nil | refine SubH_cons rfl (by first | rfl | (simp; done) | assumption) ?_))⟩ hi) ?_
        rintro j hj
        have hsl := uniqS_len ((accM (wnt s d) ((scR s).take k)) ++ (uniqS (refs pMem (rlG (scR s)[k]))).take j)
        rw [List.length_append, List.length_take] at hsl
        refine j_seq (j_seq ?_)
        refine j_region ?_
        refine jg_adr _ rfl _ rfl rfl (op_move (.base rfl)) ?_
        refine jg_adr _ rfl _ rfl rfl (op_move (.base rfl)) ?_
        refine jg_adr _ rfl _ rfl rfl (op_len Try.underlying28 (.base rfl)) ?_
        refine jg_adr _ rfl _ rfl rfl (op_lss (.base rfl) (.base rfl)) ?_
        refine jg_nil ?_
        refine jn_keep [2, 5, 6, 7, 10, 13, 14, 66] [2] (.cons rfl (.cons rfl (.cons rfl (.cons rfl (.cons rfl (.cons rfl (.cons rfl (.cons rfl .nil)))))))) (.cons rfl .nil) ?_
        refine jn_seq ?_
        refine j_cond rfl (fun h12 => ?_) (fun h12 => ?_)
        · have h12 : j < (uniqS (refs pMem (rlG (scR s)[k]))).length := by simp at h12; omega
          have hs1 : insU (uniqS (refs pMem (rlG (scR s)[k])))[j] (uniqS ((accM (wnt s d) ((scR s).take k)) ++ (uniqS (refs pMem (rlG (scR s)[k]))).take j)) = uniqS ((accM (wnt s d) ((scR s).take k)) ++ (uniqS (refs pMem (rlG (scR s)[k]))).take (j + 1)) := tk_step h12
          refine j_skip (jn_seq (j_seq (j_block ?_)))
          refine j_region ?_
          refine jg_adr _ rfl _ rfl rfl (op_move (.base rfl)) ?_
          refine jg_adr _ rfl _ rfl rfl (op_move (.base rfl)) ?_
          refine jg_adr _ rfl _ rfl rfl (op_move (.base rfl)) ?_
          refine jg_adr _ rfl _ rfl rfl (op_index Try.underlying28 ty3 (.base rfl) (.base rfl) rfl (List.getElem?_eq_getElem (by first | omega | (simp; done) | (simp; omega) | (simp at hg; omega)))) ?_
          refine jg_adr _ rfl _ rfl rfl (op_load ty3 (.base rfl)) ?_
          refine jg_adr _ rfl _ rfl rfl (op_call (rins16_ok _ _ (by omega)) (.cons (.base rfl) (.cons (.base rfl) .nil)) rfl rfl) ?_
          refine jg_adr _ rfl _ rfl rfl (op_assign (.base rfl)) ?_
          refine jg_nil ?_
          refine jn_keep [2, 5, 6, 7, 10, 13, 14] [2] (.cons rfl (.cons rfl (.cons rfl (.cons rfl (.cons rfl (.cons rfl (.cons rfl .nil))))))) (.cons rfl .nil) ?_
          refine jn_blk (jn_seq ?_)
          refine j_region ?_
          refine jg_adr _ rfl _ rfl rfl (op_move (.base rfl)) ?_
          refine jg_adr _ rfl _ rfl rfl (op_add (.base rfl) (.base rfl) (w64 (by omega))) ?_
          refine jg_adr _ rfl _ rfl rfl (op_assign (.base rfl)) ?_
          refine jg_nil ?_
          refine jn_keep [2, 5, 6, 7, 10, 13, 14] [2] (.cons rfl (.cons rfl (.cons rfl (.cons rfl (.cons rfl (.cons rfl (.cons rfl .nil))))))) (.cons rfl .nil) ?_
          exact jn_loop (fun a w hi => ⟨j + 1, (by first | omega | (simp; omega)), (by omega), Sub.inv ⟨(by repeat (first | exact SubS_nil | refine SubS_cons rfl (by first | rfl | (simp; done) | assumption | exact congrArg (SV.tv (rSlice (rInt .i64))) hs1) ?_)), (by repeat (first | exact SubH_nil | refine SubH_cons rfl (by first | rfl | (simp; done) | assumption) ?_))⟩ hi⟩)
        · have h12 : j = (uniqS (refs pMem (rlG (scR s)[k]))).length := by simp at h12; omega
          rw [h12, List.take_length]
          refine j_exit (je_seq (je_loop (je_blk (jn_seq (j_seq ?_)))))
          refine j_region ?_
          refine jg_adr _ rfl _ rfl rfl (op_assign (.base rfl)) ?_
          refine jg_nil ?_
          refine jn_keep [2, 5, 6, 7, 13, 15] [2] (.cons rfl (.cons rfl (.cons rfl (.cons rfl (.cons rfl (.cons rfl .nil)))))) (.cons rfl .nil) ?_
          refine jn_seq (j_block ?_)
          refine j_loopp (ι := Nat) (fun j => ⟨[(2, .optr 2 rScope.n 0 0), (5, .tv (rSlice (rInt .i64)) (insU d (trns s d))), (6, .tv (rSlice (rInt .i64)) (uniqS (((accM (wnt s d) ((scR s).take k)) ++ (uniqS (refs pMem (rlG (scR s)[k])))) ++ (uniqS (refs pMem (rlV (scR s)[k]))).take j))), (7, .raw (.int .i64 ((k : Nat)))), (13, .tv (rSlice (rInt .i64)) (uniqS (refs pMem (rlV (scR s)[k])))), (15, .raw (.int .i64 ((j : Nat))))], [(2, ⟨rScope, [s]⟩)]⟩) (fun j => j ≤ (uniqS (refs pMem (rlV (scR s)[k]))).length) (fun j => (uniqS (refs pMem (rlV (scR s)[k]))).length - j) 0 (Nat.zero_le _) (fun a w hi => Sub.inv ⟨(by repeat (first | exact SubS_nil | refine SubS_cons rfl (by first | rfl | (simp; done) | assumption | exact congrArg (SV.tv (rSlice (rInt .i64))) (by simp)) ?_)), (by repeat (first | exact SubH_nil | refine SubH_cons rfl (by first | rfl | (simp; done) | assumption) ?_))⟩ hi) ?_
          rintro j hj2
          have hsl2 := uniqS_len (((accM (wnt s d) ((scR s).take k)) ++ (uniqS (refs pMem (rlG (scR s)[k])))) ++ (uniqS (refs pMem (rlV (scR s)[k]))).take j)
          rw [List.length_append, List.length_append, List.length_take] at hsl2
          refine j_seq (j_seq ?_)
          refine j_region ?_
          refine jg_adr _ rfl _ rfl rfl (op_move (.base rfl)) ?_
          refine jg_adr _ rfl _ rfl rfl (op_move (.base rfl)) ?_
          refine jg_adr _ rfl _ rfl rfl (op_len Try.underlying28 (.base rfl)) ?_
          refine jg_adr _ rfl _ rfl rfl (op_lss (.base rfl) (.base rfl)) ?_
          refine jg_nil ?_
          refine jn_keep [2, 5, 6, 7, 13, 15, 78] [2] (.cons rfl (.cons rfl (.cons rfl (.cons rfl (.cons rfl (.cons rfl (.cons rfl .nil))))))) (.cons rfl .nil) ?_
          refine jn_seq ?_
          refine j_cond rfl (fun h16 => ?_) (fun h16 => ?_)
          · have h16 : j < (uniqS (refs pMem (rlV (scR s)[k]))).length := by simp at h16; omega
            have hs2 : insU (uniqS (refs pMem (rlV (scR s)[k])))[j] (uniqS (((accM (wnt s d) ((scR s).take k)) ++ (uniqS (refs pMem (rlG (scR s)[k])))) ++ (uniqS (refs pMem (rlV (scR s)[k]))).take j)) = uniqS (((accM (wnt s d) ((scR s).take k)) ++ (uniqS (refs pMem (rlG (scR s)[k])))) ++ (uniqS (refs pMem (rlV (scR s)[k]))).take (j + 1)) := tk_step h16
            refine j_skip (jn_seq (j_seq (j_block ?_)))
            refine j_region ?_
            refine jg_adr _ rfl _ rfl rfl (op_move (.base rfl)) ?_
            refine jg_adr _ rfl _ rfl rfl (op_move (.base rfl)) ?_
            refine jg_adr _ rfl _ rfl rfl (op_move (.base rfl)) ?_
            refine jg_adr _ rfl _ rfl rfl (op_index Try.underlying28 ty3 (.base rfl) (.base rfl) rfl (List.getElem?_eq_getElem (by first | omega | (simp; done) | (simp; omega) | (simp at hg; omega)))) ?_
            refine jg_adr _ rfl _ rfl rfl (op_load ty3 (.base rfl)) ?_
            refine jg_adr _ rfl _ rfl rfl (op_call (rins16_ok _ _ (by omega)) (.cons (.base rfl) (.cons (.base rfl) .nil)) rfl rfl) ?_
            refine jg_adr _ rfl _ rfl rfl (op_assign (.base rfl)) ?_
            refine jg_nil ?_
            refine jn_keep [2, 5, 6, 7, 13, 15] [2] (.cons rfl (.cons rfl (.cons rfl (.cons rfl (.cons rfl (.cons rfl .nil)))))) (.cons rfl .nil) ?_
            refine jn_blk (jn_seq ?_)
            refine j_region ?_
            refine jg_adr _ rfl _ rfl rfl (op_move (.base rfl)) ?_
            refine jg_adr _ rfl _ rfl rfl (op_add (.base rfl) (.base rfl) (w64 (by omega))) ?_
            refine jg_adr _ rfl _ rfl rfl (op_assign (.base rfl)) ?_
            refine jg_nil ?_
            refine jn_keep [2, 5, 6, 7, 13, 15] [2] (.cons rfl (.cons rfl (.cons rfl (.cons rfl (.cons rfl (.cons rfl .nil)))))) (.cons rfl .nil) ?_
            exact jn_loop (fun a w hi => ⟨j + 1, (by first | omega | (simp; omega)), (by omega), Sub.inv ⟨(by repeat (first | exact SubS_nil | refine SubS_cons rfl (by first | rfl | (simp; done) | assumption | exact congrArg (SV.tv (rSlice (rInt .i64))) hs2) ?_)), (by repeat (first | exact SubH_nil | refine SubH_cons rfl (by first | rfl | (simp; done) | assumption) ?_))⟩ hi⟩)
          · have h16 : j = (uniqS (refs pMem (rlV (scR s)[k]))).length := by simp at h16; omega
            rw [h16, List.take_length]
            have hst : uniqS (((accM (wnt s d) ((scR s).take k)) ++ (uniqS (refs pMem (rlG (scR s)[k])))) ++ (uniqS (refs pMem (rlV (scR s)[k])))) = uniqS (accM (wnt s d) ((scR s).take (k + 1))) := by rw [accM_t h6 hwt]
            refine j_exit (je_seq (je_loop (je_blk (jn_blk (jn_seq ?_)))))
            refine j_region ?_
            refine jg_adr _ rfl _ rfl rfl (op_move (.base rfl)) ?_
            refine jg_adr _ rfl _ rfl rfl (op_add (.base rfl) (.base rfl) (w64 (by omega))) ?_
            refine jg_adr _ rfl _ rfl rfl (op_assign (.base rfl)) ?_
            refine jg_nil ?_
            refine jn_keep [2, 5, 6, 7] [2] (.cons rfl (.cons rfl (.cons rfl (.cons rfl .nil)))) (.cons rfl .nil) ?_
            first | (have _hh := hsf; exact jn_loop (fun a w hi => ⟨k + 1, (by first | omega | (simp; omega)), (by omega), Sub.inv ⟨(by repeat (first | exact SubS_nil | refine SubS_cons rfl (by first | rfl | (simp; done) | assumption | exact congrArg (SV.tv (rSlice (rInt .i64))) hsf) ?_)), (by repeat (first | exact SubH_nil | refine SubH_cons rfl (by first | rfl | (simp; done) | assumption) ?_))⟩ hi⟩)) | (have _hh := hst; exact jn_loop (fun a w hi => ⟨k + 1, (by first | omega | (simp; omega)), (by omega), Sub.inv ⟨(by repeat (first | exact SubS_nil | refine SubS_cons rfl (by first | rfl | (simp; done) | assumption | exact congrArg (SV.tv (rSlice (rInt .i64))) hst) ?_)), (by repeat (first | exact SubH_nil | refine SubH_cons rfl (by first | rfl | (simp; done) | assumption) ?_))⟩ hi⟩))
    · have hke : k = (scR s).length := by simp at h6; omega
      subst hke
      rw [List.take_length]
      refine j_exit (je_seq (je_loop (je_blk (jn_seq (j_seq ?_)))))
      refine j_region ?_
      refine jg_adr _ rfl _ rfl rfl (op_move (.base rfl)) ?_
      refine jg_adr _ rfl _ rfl rfl (op_assign (.base rfl)) ?_
      refine jg_nil ?_
      refine jn_keep [4] [] (.cons rfl .nil) .nil ?_
      refine jn_seq (j_ret ?_)
      exact jr_fin1 Try.results20 (res_tmp rfl) rfl (congrArg (SV.tv (rSlice (rInt .i64))) (by unfold mems; rw [if_pos h1]))


instance (s : TScope) : Decidable (Lim s) := by unfold Lim RLim; infer_instance

theorem small16_ok (s : TScope) : Ct Try.prog 7 [.tv rScope s] (.raw (.bool (decide (Lim s)))) := by
  refine ct_intro Try.func7 rfl rfl Try.ntmps7 rfl rfl ?_
  intro w0 ok0
  refine j_seq ?_
  refine j_region ?_
  refine jg_os _ rfl (op_box (.tv (.base rfl)) rfl rfl rfl) ?_
  refine jg_adr _ rfl _ rfl rfl (op_assign (.base rfl)) ?_
  refine jg_nil ?_
  refine jn_keep [1] [1] (.cons rfl .nil) (.cons rfl .nil) ?_
  refine jn_seq (j_seq (j_seq ?_))
  refine j_region ?_
  refine jg_adr _ rfl _ rfl rfl (op_ofield fld25_3 (.base rfl)) ?_
  refine jg_adr _ rfl _ rfl rfl (op_oload ty22 (.base rfl) rfl rfl ln25_3) ?_
  refine jg_adr _ rfl _ rfl rfl (op_len Try.underlying22 (.base rfl)) ?_
  refine jg_adr _ rfl _ rfl rfl (op_gtr (.base rfl) (.base rfl)) ?_
  refine jg_adr _ rfl _ rfl rfl (op_move (.base rfl)) ?_
  refine jg_gd _ _ _ _ _ _ rfl rfl rfl rfl rfl (fun hg => op_ofield fld25_4 (.base rfl)) ?_
  refine jg_gd _ _ _ _ _ _ rfl rfl rfl rfl rfl (fun hg => op_oload ty23 (.gd rfl hg) rfl rfl ln25_4) ?_
  refine jg_gd _ _ _ _ _ _ rfl rfl rfl rfl rfl (fun hg => op_len Try.underlying23 (.gd rfl hg)) ?_
  refine jg_gd _ _ _ _ _ _ rfl rfl rfl rfl rfl (fun hg => op_gtr (.gd rfl hg) (.base rfl)) ?_
  refine jg_adr _ rfl _ rfl rfl (op_pick_or (.base rfl) (.base rfl) rfl (by intro h; first | (rw [h]; rfl) | (rw [hg, h]; rfl) | (rw [h, hg]; rfl) | simp_all)) ?_
  refine jg_nil ?_
  refine jn_keep [1, 13] [1] (.cons rfl (.cons rfl .nil)) (.cons rfl .nil) ?_
  refine jn_seq ?_
  refine j_cond rfl (fun h1 => ?_) (fun h1 => ?_)
  · have h1 : ¬ Lim s := fun q => by
      obtain ⟨a, b, _⟩ := q
      have a : s.2.2.2.1.length ≤ 14 := a
      have b : s.2.2.2.2.length ≤ 40 := b
      have c : decide ((14 : Int) < s.2.2.2.1.length) = false := by simp; omega
      have e : decide ((40 : Int) < s.2.2.2.2.length) = false := by simp; omega
      simp [c, e] at h1
    refine j_seq ?_
    refine j_region ?_
    refine jg_adr _ rfl _ rfl rfl (op_assign (.base rfl)) ?_
    refine jg_nil ?_
    refine jn_keep [2] [] (.cons rfl .nil) .nil ?_
    refine jn_seq (j_ret (jr_seq ?_))
    exact jr_fin1 Try.results7 (res_tmp rfl) rfl (rb (by symm; rw [decide_eq_false_iff_not]; exact h1))
  · have h1 : s.2.2.2.1.length ≤ 14 ∧ s.2.2.2.2.length ≤ 40 := by
      by_cases e1 : s.2.2.2.1.length ≤ 14
      · by_cases e2 : s.2.2.2.2.length ≤ 40
        · exact ⟨e1, e2⟩
        · have c : decide ((40 : Int) < s.2.2.2.2.length) = true := by simp; omega
          simp [c] at h1
      · have c : decide ((14 : Int) < s.2.2.2.1.length) = true := by simp; omega
        simp [c] at h1
    refine j_skip (jn_seq (j_seq (j_seq ?_)))
    refine j_region ?_
    refine jg_adr _ rfl _ rfl rfl (op_assign (.base rfl)) ?_
    refine jg_nil ?_
    refine jn_keep [1, 3] [1] (.cons rfl (.cons rfl .nil)) (.cons rfl .nil) ?_
    refine jn_seq (j_block ?_)
    refine j_loopp (ι := Nat) (fun k => ⟨[(1, .optr 1 rScope.n 0 0), (3, .raw (.int .i64 ((k : Nat))))], [(1, ⟨rScope, [s]⟩)]⟩) (fun k => k ≤ (scR s).length ∧ ∀ i, (h : i < (scR s).length) → i < k → RLim (scR s)[i]) (fun k => (scR s).length - k) 0 (⟨Nat.zero_le _, fun i h g => by omega⟩) (fun a w hi => (Sub.inv ⟨(by repeat (first | exact SubS_nil | refine SubS_cons rfl (by first | rfl | (simp; done) | assumption) ?_)), (by repeat (first | exact SubH_nil | refine SubH_cons rfl (by first | rfl | (simp; done) | assumption) ?_))⟩ hi)) ?_
    rintro k ⟨hk, hall⟩
    have hRR : (scR s).length = s.2.2.2.2.length := rfl
    refine j_seq (j_seq ?_)
    refine j_region ?_
    refine jg_adr _ rfl _ rfl rfl (op_move (.base rfl)) ?_
    refine jg_adr _ rfl _ rfl rfl (op_ofield fld25_4 (.base rfl)) ?_
    refine jg_adr _ rfl _ rfl rfl (op_oload ty23 (.base rfl) rfl rfl ln25_4) ?_
    refine jg_adr _ rfl _ rfl rfl (op_len Try.underlying23 (.base rfl)) ?_
    refine jg_adr _ rfl _ rfl rfl (op_lss (.base rfl) (.base rfl)) ?_
    refine jg_nil ?_
    refine jn_keep [1, 3, 18] [1] (.cons rfl (.cons rfl (.cons rfl .nil))) (.cons rfl .nil) ?_
    refine jn_seq ?_
    refine j_cond rfl (fun h4 => ?_) (fun h4 => ?_)
    · have h4 : k < (scR s).length := by simp at h4; omega
      refine j_skip (jn_seq (j_seq (j_block (j_seq ?_))))
      refine j_region ?_
      refine jg_adr _ rfl _ rfl rfl (op_ofield fld25_4 (.base rfl)) ?_
      refine jg_adr _ rfl _ rfl rfl (op_oload ty23 (.base rfl) rfl rfl ln25_4) ?_
      refine jg_adr _ rfl _ rfl rfl (op_move (.base rfl)) ?_
      refine jg_adr _ rfl _ rfl rfl (op_index Try.underlying23 ty41 (.base rfl) (.base rfl) rfl (List.getElem?_eq_getElem (by first | omega | (simp; done) | (simp; omega) | (simp at hg; omega)))) ?_
      refine jg_adr _ rfl _ rfl rfl (op_field fld41_5 ln41_5 (.base rfl)) ?_
      refine jg_adr _ rfl _ rfl rfl (op_load ty39 (.base rfl)) ?_
      refine jg_adr _ rfl _ rfl rfl (op_len Try.underlying39 (.base rfl)) ?_
      refine jg_adr _ rfl _ rfl rfl (op_gtr (.base rfl) (.base rfl)) ?_
      refine jg_adr _ rfl _ rfl rfl (op_move (.base rfl)) ?_
      refine jg_gd _ _ _ _ _ _ rfl rfl rfl rfl rfl (fun hg => op_ofield fld25_4 (.base rfl)) ?_
      refine jg_gd _ _ _ _ _ _ rfl rfl rfl rfl rfl (fun hg => op_oload ty23 (.gd rfl hg) rfl rfl ln25_4) ?_
      refine jg_gd _ _ _ _ _ _ rfl rfl rfl rfl rfl (fun hg => op_move (.base rfl)) ?_
      refine jg_gd _ _ _ _ _ _ rfl rfl rfl rfl rfl (fun hg => op_index Try.underlying23 ty41 (.gd rfl hg) (.gd rfl hg) rfl (getD_some (z := (([], (0, (0, (0, ((0, 0), ([], ([], []))))))) : TRule)) (by first | omega | (simp; done) | (simp; omega) | (simp at hg; omega) | (simp at hg; simp; omega)))) ?_
      refine jg_gd _ _ _ _ _ _ rfl rfl rfl rfl rfl (fun hg => op_field fld41_6 ln41_6 (.gd rfl hg)) ?_
      refine jg_gd _ _ _ _ _ _ rfl rfl rfl rfl rfl (fun hg => op_load ty39 (.gd rfl hg)) ?_
      refine jg_gd _ _ _ _ _ _ rfl rfl rfl rfl rfl (fun hg => op_len Try.underlying39 (.gd rfl hg)) ?_
      refine jg_gd _ _ _ _ _ _ rfl rfl rfl rfl rfl (fun hg => op_gtr (.gd rfl hg) (.base rfl)) ?_
      refine jg_adr _ rfl _ rfl rfl (op_pick_or (.base rfl) (.base rfl) rfl (by intro h; first | (rw [h]; rfl) | (rw [hg, h]; rfl) | (rw [h, hg]; rfl) | simp_all)) ?_
      refine jg_nil ?_
      refine jn_keep [1, 3, 38] [1] (.cons rfl (.cons rfl (.cons rfl .nil))) (.cons rfl .nil) ?_
      refine jn_seq ?_
      refine j_cond rfl (fun h6 => ?_) (fun h6 => ?_)
      · simp only [List.getElem?_eq_getElem (show k < s.2.2.2.2.length from h4), Option.getD_some] at h6
        have h6 : ¬ RLim (scR s)[k] := fun q => by
          obtain ⟨a, b⟩ := q
          have a : ((s.2.2.2.2)[k]'h4).2.2.2.2.2.1.length ≤ 60 := a
          have b : ((s.2.2.2.2)[k]'h4).2.2.2.2.2.2.1.length ≤ 60 := b
          have c : decide ((60 : Int) < ((s.2.2.2.2)[k]'h4).2.2.2.2.2.1.length) = false := by simp; omega
          have e : decide ((60 : Int) < ((s.2.2.2.2)[k]'h4).2.2.2.2.2.2.1.length) = false := by simp; omega
          simp [c, e] at h6
        have hnl : ¬ Lim s := fun q => h6 (lim_rule q h4)
        refine j_seq ?_
        refine j_region ?_
        refine jg_adr _ rfl _ rfl rfl (op_assign (.base rfl)) ?_
        refine jg_nil ?_
        refine jn_keep [2] [] (.cons rfl .nil) .nil ?_
        refine jn_seq (j_ret (jr_blk (jr_seq (jr_loop (jr_blk (jr_seq ?_))))))
        exact jr_fin1 Try.results7 (res_tmp rfl) rfl (rb (by symm; rw [decide_eq_false_iff_not]; exact hnl))
      · simp only [List.getElem?_eq_getElem (show k < s.2.2.2.2.length from h4), Option.getD_some] at h6
        have h6 : RLim (scR s)[k] := by
          by_cases e1 : ((s.2.2.2.2)[k]'h4).2.2.2.2.2.1.length ≤ 60
          · by_cases e2 : ((s.2.2.2.2)[k]'h4).2.2.2.2.2.2.1.length ≤ 60
            · exact ⟨e1, e2⟩
            · have c : decide ((60 : Int) < ((s.2.2.2.2)[k]'h4).2.2.2.2.2.2.1.length) = true := by simp; omega
              simp [c] at h6
          · have c : decide ((60 : Int) < ((s.2.2.2.2)[k]'h4).2.2.2.2.2.1.length) = true := by simp; omega
            simp [c] at h6
        have hall1 : ∀ i, (h : i < (scR s).length) → i < k + 1 → RLim (scR s)[i] := fun i hi g => by
          by_cases e : i = k
          · subst e; exact h6
          · exact hall i hi (by omega)
        refine j_skip (jn_blk (jn_seq ?_))
        refine j_region ?_
        refine jg_adr _ rfl _ rfl rfl (op_move (.base rfl)) ?_
        refine jg_adr _ rfl _ rfl rfl (op_add (.base rfl) (.base rfl) (w64 (by omega))) ?_
        refine jg_adr _ rfl _ rfl rfl (op_assign (.base rfl)) ?_
        refine jg_nil ?_
        refine jn_keep [1, 3] [1] (.cons rfl (.cons rfl .nil)) (.cons rfl .nil) ?_
        exact jn_loop (fun a w hi => ⟨k + 1, (by first | omega | (simp; omega)), (⟨by omega, hall1⟩), Sub.inv ⟨(by repeat (first | exact SubS_nil | refine SubS_cons rfl (by first | rfl | (simp; done) | assumption) ?_)), (by repeat (first | exact SubH_nil | refine SubH_cons rfl (by first | rfl | (simp; done) | assumption) ?_))⟩ hi⟩)
    · have h4 : k = (scR s).length := by simp at h4; omega
      have hlim : Lim s := ⟨h1.1, h1.2, fun r hr => by
        obtain ⟨i, hi, e⟩ := List.mem_iff_getElem.1 hr
        rw [← e]; exact hall i hi (by omega)⟩
      refine j_exit (je_seq (je_loop (je_blk (jn_seq (j_seq ?_)))))
      refine j_region ?_
      refine jg_adr _ rfl _ rfl rfl (op_assign (.base rfl)) ?_
      refine jg_nil ?_
      refine jn_keep [2] [] (.cons rfl .nil) .nil ?_
      refine jn_seq (j_ret ?_)
      exact jr_fin1 Try.results7 (res_tmp rfl) rfl (rb (by symm; rw [decide_eq_true_iff]; exact hlim))

end Go.Proofs.Ytemcooggkcneiaa
