import Derived.Test.YtemcooggkcneiaaP16x
namespace Go.Proofs.Ytemcooggkcneiaa
open Go.Eng
set_option maxRecDepth 100000
set_option maxHeartbeats 4000000
set_option linter.unusedVariables false
set_option linter.unusedSimpArgs false

theorem law_order (s : TScope) : Ct Try.prog 3 [.tv rScope s] (.raw (.bool true)) := by
  refine ct_intro Try.func3 rfl rfl Try.ntmps3 rfl rfl ?_
  intro w0 ok0
  refine j_seq ?_
  refine j_region ?_
  refine jg_os _ rfl (op_box (.tv (.base rfl)) rfl rfl rfl) ?_
  refine jg_adr _ rfl _ rfl rfl (op_assign (.base rfl)) ?_
  refine jg_nil ?_
  refine jn_keep [1] [1] (.cons rfl .nil) (.cons rfl .nil) ?_
  refine jn_seq (j_seq (j_seq ?_))
  refine j_region ?_
  refine jg_adr _ rfl _ rfl rfl (op_oload ty25 (.base rfl) rfl rfl (Lens.id _)) ?_
  refine jg_adr _ rfl _ rfl rfl (op_call (small16_ok s) (.cons (.base rfl) .nil) rfl rfl) ?_
  refine jg_adr _ rfl _ rfl rfl (op_not (.base rfl)) ?_
  refine jg_nil ?_
  refine jn_keep [1, 9] [1] (.cons rfl (.cons rfl .nil)) (.cons rfl .nil) ?_
  refine jn_seq ?_
  refine j_cond rfl (fun h1 => ?_) (fun h1 => ?_)
  · skip
    refine j_seq ?_
    refine j_region ?_
    refine jg_adr _ rfl _ rfl rfl (op_call awake_ok .nil rfl rfl) ?_
    refine jg_adr _ rfl _ rfl rfl (op_assign (.base rfl)) ?_
    refine jg_nil ?_
    refine jn_keep [2] [] (.cons rfl .nil) .nil ?_
    refine jn_seq (j_ret (jr_seq ?_))
    exact jr_fin1 Try.results3 (res_tmp rfl) rfl (rfl)
  · have hL : Lim s := by simpa using h1
    refine j_skip (jn_seq (j_seq ?_))
    refine j_region ?_
    refine jg_adr _ rfl _ rfl rfl (op_oload ty25 (.base rfl) rfl rfl (Lens.id _)) ?_
    refine jg_adr _ rfl _ rfl rfl (op_call (evalOrder_ok s hL) (.cons (.base rfl) .nil) rfl rfl) ?_
    refine jg_adr _ rfl _ rfl rfl (op_move (.base rfl)) ?_
    refine jg_adr _ rfl _ rfl rfl (op_ext20 (.base rfl)) ?_
    refine jg_adr _ rfl _ rfl rfl (op_ext21 (.base rfl)) ?_
    refine jg_adr _ rfl _ rfl rfl (op_assign (.base rfl)) ?_
    refine jg_adr _ rfl _ rfl rfl (op_assign (.base rfl)) ?_
    refine jg_nil ?_
    refine jn_keep [1, 3, 4] [1] (.cons rfl (.cons rfl (.cons rfl .nil))) (.cons rfl .nil) ?_
    refine jn_seq (j_seq ?_)
    refine j_region ?_
    refine jg_adr _ rfl _ rfl rfl (op_oload ty25 (.base rfl) rfl rfl (Lens.id _)) ?_
    refine jg_adr _ rfl _ rfl rfl (op_call (revalOrder_ok s hL) (.cons (.base rfl) .nil) rfl rfl) ?_
    refine jg_adr _ rfl _ rfl rfl (op_move (.base rfl)) ?_
    refine jg_adr _ rfl _ rfl rfl (op_ext20 (.base rfl)) ?_
    refine jg_adr _ rfl _ rfl rfl (op_ext21 (.base rfl)) ?_
    refine jg_adr _ rfl _ rfl rfl (op_assign (.base rfl)) ?_
    refine jg_adr _ rfl _ rfl rfl (op_assign (.base rfl)) ?_
    refine jg_nil ?_
    refine jn_keep [3, 4, 5, 6] [] (.cons rfl (.cons rfl (.cons rfl (.cons rfl .nil)))) .nil ?_
    refine jn_seq (j_seq ?_)
    refine j_region ?_
    refine jg_adr _ rfl _ rfl rfl (op_move (.base rfl)) ?_
    refine jg_adr _ rfl _ rfl rfl (op_move (.base rfl)) ?_
    refine jg_adr _ rfl _ rfl rfl (op_call (same_ints _ _) (.cons (.base rfl) (.cons (.base rfl) .nil)) rfl rfl) ?_
    refine jg_adr _ rfl _ rfl rfl (op_move (.base rfl)) ?_
    refine jg_gd _ _ _ _ _ _ rfl rfl rfl rfl rfl (fun hg => op_move (.base rfl)) ?_
    refine jg_gd _ _ _ _ _ _ rfl rfl rfl rfl rfl (fun hg => op_move (.base rfl)) ?_
    refine jg_gd _ _ _ _ _ _ rfl rfl rfl rfl rfl (fun hg => op_eql (.gd rfl hg) (.gd rfl hg)) ?_
    refine jg_adr _ rfl _ rfl rfl (op_pick_and (.base rfl) (.base rfl) rfl (by intro h; first | (rw [h]; rfl) | (rw [hg, h]; rfl) | (rw [h, hg]; rfl) | simp_all)) ?_
    refine jg_adr _ rfl _ rfl rfl (op_move (.base rfl)) ?_
    refine jg_gd _ _ _ _ _ _ rfl rfl rfl rfl rfl (fun hg => op_call awake_ok .nil rfl rfl) ?_
    refine jg_adr _ rfl _ rfl rfl (op_pick_and (.base rfl) (.base rfl) rfl (by intro h; first | (rw [h]; rfl) | (rw [hg, h]; rfl) | (rw [h, hg]; rfl) | simp_all)) ?_
    refine jg_adr _ rfl _ rfl rfl (op_assign (.base rfl)) ?_
    refine jg_nil ?_
    refine jn_keep [2] [] (.cons rfl .nil) .nil ?_
    refine jn_seq (j_ret ?_)
    exact jr_fin1 Try.results3 (res_tmp rfl) rfl (rb (by simp))

theorem law_cycle (s : TScope) : Ct Try.prog 4 [.tv rScope s] (.raw (.bool true)) := by
  refine ct_intro Try.func4 rfl rfl Try.ntmps4 rfl rfl ?_
  intro w0 ok0
  refine j_seq ?_
  refine j_region ?_
  refine jg_os _ rfl (op_box (.tv (.base rfl)) rfl rfl rfl) ?_
  refine jg_adr _ rfl _ rfl rfl (op_assign (.base rfl)) ?_
  refine jg_nil ?_
  refine jn_keep [1] [1] (.cons rfl .nil) (.cons rfl .nil) ?_
  refine jn_seq (j_seq (j_seq ?_))
  refine j_region ?_
  refine jg_adr _ rfl _ rfl rfl (op_oload ty25 (.base rfl) rfl rfl (Lens.id _)) ?_
  refine jg_adr _ rfl _ rfl rfl (op_call (small16_ok s) (.cons (.base rfl) .nil) rfl rfl) ?_
  refine jg_adr _ rfl _ rfl rfl (op_not (.base rfl)) ?_
  refine jg_nil ?_
  refine jn_keep [1, 5] [1] (.cons rfl (.cons rfl .nil)) (.cons rfl .nil) ?_
  refine jn_seq ?_
  refine j_cond rfl (fun h1 => ?_) (fun h1 => ?_)
  · skip
    refine j_seq ?_
    refine j_region ?_
    refine jg_adr _ rfl _ rfl rfl (op_call awake_ok .nil rfl rfl) ?_
    refine jg_adr _ rfl _ rfl rfl (op_assign (.base rfl)) ?_
    refine jg_nil ?_
    refine jn_keep [2] [] (.cons rfl .nil) .nil ?_
    refine jn_seq (j_ret (jr_seq ?_))
    exact jr_fin1 Try.results4 (res_tmp rfl) rfl (rfl)
  · have hL : Lim s := by simpa using h1
    refine j_skip (jn_seq (j_seq ?_))
    refine j_draw mo (by kernel_rfl) (
      AS.cons _ _ rfl (ga_adr rfl rfl rfl (op_oload ty25 (.base rfl) rfl rfl (Lens.id _))) (
        AS.cons _ _ rfl (ga_adr rfl rfl rfl (op_call (findCycle_ok s hL) (.cons (.base rfl) .nil) rfl rfl)) (
        AS.cons _ _ rfl (ga_adr rfl rfl rfl (op_oload ty25 (.base rfl) rfl rfl (Lens.id _))) (
        AS.cons _ _ rfl (ga_adr rfl rfl rfl (op_call (rfindCycle_ok s hL) (.cons (.base rfl) .nil) rfl rfl)) (
        AS.cons _ _ rfl (ga_adr rfl rfl rfl (op_call (same_ints _ _) (.cons (.base rfl) (.cons (.base rfl) .nil)) rfl rfl)) (
        AS.cons _ _ rfl (ga_adr rfl rfl rfl (op_move (.base rfl))) (
        AS.cons _ _ rfl (ga_gd _ _ _ _ rfl rfl rfl rfl rfl (fun hg => op_call awake_ok .nil rfl rfl)) (
        AS.cons _ _ rfl (ga_adr rfl rfl rfl (op_pick_and (.base rfl) (.base rfl) rfl (by intro h; first | (rw [h]; rfl) | (rw [hg, h]; rfl) | (rw [h, hg]; rfl) | simp_all))) (
        AS.cons _ _ rfl (ga_adr rfl rfl rfl (op_assign (.base rfl))) (
        AS.nil)))))))))) ?_
    refine jn_keep [2] [] (.cons rfl .nil) .nil ?_
    refine jn_seq (j_ret ?_)
    exact jr_fin1 Try.results4 (res_tmp rfl) rfl (rb (by simp))

theorem law_deps (s : TScope) (d : Int) : Ct Try.prog 6 [.tv rScope s, .raw (.int .i64 d)] (.raw (.bool true)) := by
  refine ct_intro Try.func6 rfl rfl Try.ntmps6 rfl rfl ?_
  intro w0 ok0
  refine j_seq ?_
  refine j_region ?_
  refine jg_os _ rfl (op_box (.tv (.base rfl)) rfl rfl rfl) ?_
  refine jg_adr _ rfl _ rfl rfl (op_assign (.base rfl)) ?_
  refine jg_nil ?_
  refine jn_keep [1, 2] [2] (.cons rfl (.cons rfl .nil)) (.cons rfl .nil) ?_
  refine jn_seq (j_seq (j_seq ?_))
  refine j_region ?_
  refine jg_adr _ rfl _ rfl rfl (op_oload ty25 (.base rfl) rfl rfl (Lens.id _)) ?_
  refine jg_adr _ rfl _ rfl rfl (op_call (small16_ok s) (.cons (.base rfl) .nil) rfl rfl) ?_
  refine jg_adr _ rfl _ rfl rfl (op_not (.base rfl)) ?_
  refine jg_nil ?_
  refine jn_keep [1, 2, 7] [2] (.cons rfl (.cons rfl (.cons rfl .nil))) (.cons rfl .nil) ?_
  refine jn_seq ?_
  refine j_cond rfl (fun h1 => ?_) (fun h1 => ?_)
  · skip
    refine j_seq ?_
    refine j_region ?_
    refine jg_adr _ rfl _ rfl rfl (op_call awake_ok .nil rfl rfl) ?_
    refine jg_adr _ rfl _ rfl rfl (op_assign (.base rfl)) ?_
    refine jg_nil ?_
    refine jn_keep [4] [] (.cons rfl .nil) .nil ?_
    refine jn_seq (j_ret (jr_seq ?_))
    exact jr_fin1 Try.results6 (res_tmp rfl) rfl (rfl)
  · have hL : Lim s := by simpa using h1
    refine j_skip (jn_seq (j_seq ?_))
    refine j_draw mo (by kernel_rfl) (
      AS.cons _ _ rfl (ga_adr rfl rfl rfl (op_oload ty25 (.base rfl) rfl rfl (Lens.id _))) (
        AS.cons _ _ rfl (ga_adr rfl rfl rfl (op_move (.base rfl))) (
        AS.cons _ _ rfl (ga_adr rfl rfl rfl (op_call (direct_ok s _ hL) (.cons (.base rfl) (.cons (.base rfl) .nil)) rfl rfl)) (
        AS.cons _ _ rfl (ga_adr rfl rfl rfl (op_oload ty25 (.base rfl) rfl rfl (Lens.id _))) (
        AS.cons _ _ rfl (ga_adr rfl rfl rfl (op_move (.base rfl))) (
        AS.cons _ _ rfl (ga_adr rfl rfl rfl (op_call (rdirect_ok s _ hL) (.cons (.base rfl) (.cons (.base rfl) .nil)) rfl rfl)) (
        AS.cons _ _ rfl (ga_adr rfl rfl rfl (op_call (same_ints _ _) (.cons (.base rfl) (.cons (.base rfl) .nil)) rfl rfl)) (
        AS.cons _ _ rfl (ga_adr rfl rfl rfl (op_move (.base rfl))) (
        AS.cons _ _ rfl (ga_gd _ _ _ _ rfl rfl rfl rfl rfl (fun hg => op_oload ty25 (.base rfl) rfl rfl (Lens.id _))) (
        AS.cons _ _ rfl (ga_gd _ _ _ _ rfl rfl rfl rfl rfl (fun hg => op_move (.base rfl))) (
        AS.cons _ _ rfl (ga_gd _ _ _ _ rfl rfl rfl rfl rfl (fun hg => op_call (trans_ok s _ hL) (.cons (.gd rfl hg) (.cons (.gd rfl hg) .nil)) rfl rfl)) (
        AS.cons _ _ rfl (ga_gd _ _ _ _ rfl rfl rfl rfl rfl (fun hg => op_oload ty25 (.base rfl) rfl rfl (Lens.id _))) (
        AS.cons _ _ rfl (ga_gd _ _ _ _ rfl rfl rfl rfl rfl (fun hg => op_move (.base rfl))) (
        AS.cons _ _ rfl (ga_gd _ _ _ _ rfl rfl rfl rfl rfl (fun hg => op_call (rtrans_ok s _ hL) (.cons (.gd rfl hg) (.cons (.gd rfl hg) .nil)) rfl rfl)) (
        AS.cons _ _ rfl (ga_gd _ _ _ _ rfl rfl rfl rfl rfl (fun hg => op_call (same_ints _ _) (.cons (.gd rfl hg) (.cons (.gd rfl hg) .nil)) rfl rfl)) (
        AS.cons _ _ rfl (ga_adr rfl rfl rfl (op_pick_and (.base rfl) (.base rfl) rfl (by intro h; first | (rw [h]; rfl) | (rw [hg, h]; rfl) | (rw [h, hg]; rfl) | simp_all))) (
        AS.cons _ _ rfl (ga_adr rfl rfl rfl (op_move (.base rfl))) (
        AS.cons _ _ rfl (ga_gd _ _ _ _ rfl rfl rfl rfl rfl (fun hg => op_oload ty25 (.base rfl) rfl rfl (Lens.id _))) (
        AS.cons _ _ rfl (ga_gd _ _ _ _ rfl rfl rfl rfl rfl (fun hg => op_move (.base rfl))) (
        AS.cons _ _ rfl (ga_gd _ _ _ _ rfl rfl rfl rfl rfl (fun hg => op_call (members_ok s _ hL) (.cons (.gd rfl hg) (.cons (.gd rfl hg) .nil)) rfl rfl)) (
        AS.cons _ _ rfl (ga_gd _ _ _ _ rfl rfl rfl rfl rfl (fun hg => op_oload ty25 (.base rfl) rfl rfl (Lens.id _))) (
        AS.cons _ _ rfl (ga_gd _ _ _ _ rfl rfl rfl rfl rfl (fun hg => op_move (.base rfl))) (
        AS.cons _ _ rfl (ga_gd _ _ _ _ rfl rfl rfl rfl rfl (fun hg => op_call (rmembers_ok s _ hL) (.cons (.gd rfl hg) (.cons (.gd rfl hg) .nil)) rfl rfl)) (
        AS.cons _ _ rfl (ga_gd _ _ _ _ rfl rfl rfl rfl rfl (fun hg => op_call (same_ints _ _) (.cons (.gd rfl hg) (.cons (.gd rfl hg) .nil)) rfl rfl)) (
        AS.cons _ _ rfl (ga_adr rfl rfl rfl (op_pick_and (.base rfl) (.base rfl) rfl (by intro h; first | (rw [h]; rfl) | (rw [hg, h]; rfl) | (rw [h, hg]; rfl) | simp_all))) (
        AS.cons _ _ rfl (ga_adr rfl rfl rfl (op_move (.base rfl))) (
        AS.cons _ _ rfl (ga_gd _ _ _ _ rfl rfl rfl rfl rfl (fun hg => op_call awake_ok .nil rfl rfl)) (
        AS.cons _ _ rfl (ga_adr rfl rfl rfl (op_pick_and (.base rfl) (.base rfl) rfl (by intro h; first | (rw [h]; rfl) | (rw [hg, h]; rfl) | (rw [h, hg]; rfl) | simp_all))) (
        AS.cons _ _ rfl (ga_adr rfl rfl rfl (op_assign (.base rfl))) (
        AS.nil)))))))))))))))))))))))))))))) ?_
    refine jn_keep [4] [] (.cons rfl .nil) .nil ?_
    refine jn_seq (j_ret ?_)
    exact jr_fin1 Try.results6 (res_tmp rfl) rfl (rb (by simp))


noncomputable def ownB (s : TScope) : Nat → Bool
  | 0 => false
  | k + 1 => ownB s k || decide (((k : Nat) : Int) ∈ trns s ((k : Nat) : Int))
theorem ownB_iff (s : TScope) : ∀ k, ownB s k = true ↔ ∃ j, j < k ∧ ((j : Nat) : Int) ∈ trns s ((j : Nat) : Int)
  | 0 => by simp [ownB]
  | k + 1 => by
    rw [ownB, Bool.or_eq_true, ownB_iff s k, decide_eq_true_iff]
    constructor
    · rintro (⟨j, h1, h2⟩ | h)
      · exact ⟨j, by omega, h2⟩
      · exact ⟨k, by omega, h⟩
    · rintro ⟨j, h1, h2⟩
      by_cases e : j = k
      · subst e; exact .inr h2
      · exact .inl ⟨j, by omega, h2⟩
theorem trns_rp {s : TScope} {d e : Int} (h0 : 0 ≤ d) (h1 : d < scN s) : e ∈ trns s d ↔ Rp (allD s) d e := by
  unfold trns
  rw [if_pos (inN_of h0 h1), reachL_mem (allD_wf s)]
theorem own_iff (s : TScope) : ownB s (scN s) = true ↔ ∃ d : Int, 0 ≤ d ∧ d < scN s ∧ Rp (allD s) d d := by
  rw [ownB_iff]
  constructor
  · rintro ⟨j, h1, h2⟩
    exact ⟨(j : Int), by omega, by omega, (trns_rp (by omega) (by omega)).1 h2⟩
  · rintro ⟨d, h0, h1, h2⟩
    refine ⟨d.toNat, by omega, ?_⟩
    rw [show ((d.toNat : Nat) : Int) = d by omega]
    exact (trns_rp h0 h1).2 h2
theorem ownV (s : TScope) : ordV (scN s) (allD s) = if ownB s (scN s) = true then ([], 9) else (ordR (scN s) (allD s) (scN s), 0) := by
  unfold ordV
  have h1 := ordR_own (fd16 s)
  have h2 := own_iff s
  by_cases c : (ordR (scN s) (allD s) (scN s)).length < scN s
  · rw [if_pos c, if_pos (h2.2 (h1.1 c))]
  · rw [if_neg c, if_neg (fun q => c (h1.2 (h2.1 q)))]
theorem cyc_len (s : TScope) : decide (0 < (cycF (scN s) (allD s)).length) = ownB s (scN s) := by
  rw [Bool.eq_iff_iff, decide_eq_true_iff, own_iff, ← cycF_ne (fd16 s), List.length_pos_iff]
theorem cyc_fnd {s : TScope} (h : ownB s (scN s) = true) : ∃ L a, Fnd (scN s) (dirs s) L a ∧ cycF (scN s) (allD s) = pthR (dirs s) L (a : Int) (L - 1) := by
  rcases fnd_or (scN s) (dirs s) with q | ⟨L, a, q⟩
  · exact absurd (cycF_none (fd16 s) q) ((cycF_ne (fd16 s)).2 ((own_iff s).1 h))
  · exact ⟨L, a, q, q.cycF (fd16 s)⟩
theorem pthR_at (f : Int → List Int) (L : Nat) (a : Int) (k i : Nat) (h : i < (pthR f L a k).length) : (pthR f L a k)[i] = lstR f L a i := by simp [pthR]
theorem cyc_edge {s : TScope} (h : ownB s (scN s) = true) {i : Nat} (hi : i < (cycF (scN s) (allD s)).length) (hj : 0 < (cycF (scN s) (allD s)).length) : (if hc : i + 1 < (cycF (scN s) (allD s)).length then (cycF (scN s) (allD s))[i + 1] else (cycF (scN s) (allD s))[0]) ∈ dirs s (cycF (scN s) (allD s))[i] ∧ (cycF (scN s) (allD s))[i] ∉ (cycF (scN s) (allD s)).take i := by
  obtain ⟨L, a, q, e⟩ := cyc_fnd h
  have hl1 := q.l1
  have hl : (cycF (scN s) (allD s)).length = L := by rw [e, pthR_len]; omega
  have hed := q.edges (fd16 s) (i := i) (by omega)
  have hon := q.once (fd16 s) (i := i) (by omega)
  simp only [e] at hi hj hl ⊢
  rw [pthR_at]
  refine ⟨?_, hon⟩
  split
  · rename_i c
    rw [pthR_at]
    rw [if_pos (by omega)] at hed; exact hed
  · rename_i c
    rw [pthR_at]
    rw [if_neg (by omega)] at hed; exact hed
theorem ord_len {s : TScope} (h : ownB s (scN s) = false) : (ordR (scN s) (allD s) (scN s)).length = scN s := by
  have h1 := ordR_own (fd16 s)
  have h2 := own_iff s
  have h3 := (ordR_ok (scN s) (allD s) (scN s)).len
  rcases Nat.lt_or_ge (ordR (scN s) (allD s) (scN s)).length (scN s) with c | c
  · rw [h2.2 (h1.1 c)] at h; cases h
  · omega
theorem ord_rng {s : TScope} {k i : Nat} (hi : i < (ordR (scN s) (allD s) k).length) : 0 ≤ (ordR (scN s) (allD s) k)[i] ∧ (ordR (scN s) (allD s) k)[i] < scN s := (ordR_ok (scN s) (allD s) k).rng _ (List.getElem_mem hi)
theorem ord_aft {s : TScope} {k i : Nat} (hi : i < (ordR (scN s) (allD s) k).length) {t : Int} (ht : t ∈ trns s (ordR (scN s) (allD s) k)[i]) : t ∈ (ordR (scN s) (allD s) k).take i :=
  ordR_after _ _ hi ((trns_rp (ord_rng hi).1 (ord_rng hi).2).1 ht)

theorem law_topo (s : TScope) : Ct Try.prog 5 [.tv rScope s] (.raw (.bool true)) := by
  refine ct_intro Try.func5 rfl rfl Try.ntmps5 rfl rfl ?_
  intro w0 ok0
  refine j_seq ?_
  refine j_region ?_
  refine jg_os _ rfl (op_box (.tv (.base rfl)) rfl rfl rfl) ?_
  refine jg_adr _ rfl _ rfl rfl (op_assign (.base rfl)) ?_
  refine jg_nil ?_
  refine jn_keep [1] [1] (.cons rfl .nil) (.cons rfl .nil) ?_
  refine jn_seq (j_seq (j_seq ?_))
  refine j_region ?_
  refine jg_adr _ rfl _ rfl rfl (op_oload ty25 (.base rfl) rfl rfl (Lens.id _)) ?_
  refine jg_adr _ rfl _ rfl rfl (op_call (small16_ok s) (.cons (.base rfl) .nil) rfl rfl) ?_
  refine jg_adr _ rfl _ rfl rfl (op_not (.base rfl)) ?_
  refine jg_nil ?_
  refine jn_keep [1, 15] [1] (.cons rfl (.cons rfl .nil)) (.cons rfl .nil) ?_
  refine jn_seq ?_
  refine j_cond rfl (fun h1 => ?_) (fun h1 => ?_)
  · skip
    refine j_seq ?_
    refine j_region ?_
    refine jg_adr _ rfl _ rfl rfl (op_call awake_ok .nil rfl rfl) ?_
    refine jg_adr _ rfl _ rfl rfl (op_assign (.base rfl)) ?_
    refine jg_nil ?_
    refine jn_keep [2] [] (.cons rfl .nil) .nil ?_
    refine jn_seq (j_ret (jr_seq ?_))
    exact jr_fin1 Try.results5 (res_tmp rfl) rfl (rfl)
  · have hL : Lim s := by simpa using h1
    refine j_skip (jn_seq (j_seq ?_))
    refine j_region ?_
    refine jg_adr _ rfl _ rfl rfl (op_oload ty25 (.base rfl) rfl rfl (Lens.id _)) ?_
    refine jg_adr _ rfl _ rfl rfl (op_call (evalOrder_ok s hL) (.cons (.base rfl) .nil) rfl rfl) ?_
    refine jg_adr _ rfl _ rfl rfl (op_move (.base rfl)) ?_
    refine jg_adr _ rfl _ rfl rfl (op_ext20 (.base rfl)) ?_
    refine jg_adr _ rfl _ rfl rfl (op_ext21 (.base rfl)) ?_
    refine jg_adr _ rfl _ rfl rfl (op_assign (.base rfl)) ?_
    refine jg_adr _ rfl _ rfl rfl (op_assign (.base rfl)) ?_
    refine jg_nil ?_
    refine jn_keep [1, 3, 4] [1] (.cons rfl (.cons rfl (.cons rfl .nil))) (.cons rfl .nil) ?_
    refine jn_seq (j_seq ?_)
    refine j_region ?_
    refine jg_adr _ rfl _ rfl rfl (op_oload ty25 (.base rfl) rfl rfl (Lens.id _)) ?_
    refine jg_adr _ rfl _ rfl rfl (op_call (findCycle_ok s hL) (.cons (.base rfl) .nil) rfl rfl) ?_
    refine jg_adr _ rfl _ rfl rfl (op_assign (.base rfl)) ?_
    refine jg_nil ?_
    refine jn_keep [1, 3, 4, 5] [1] (.cons rfl (.cons rfl (.cons rfl (.cons rfl .nil)))) (.cons rfl .nil) ?_
    refine jn_seq (j_seq ?_)
    refine j_region ?_
    refine jg_adr _ rfl _ rfl rfl (op_assign (.base rfl)) ?_
    refine jg_nil ?_
    refine jn_keep [1, 3, 4, 5, 6] [1] (.cons rfl (.cons rfl (.cons rfl (.cons rfl (.cons rfl .nil))))) (.cons rfl .nil) ?_
    refine jn_seq (j_seq (j_seq ?_))
    refine j_region ?_
    refine jg_adr _ rfl _ rfl rfl (op_assign (.base rfl)) ?_
    refine jg_nil ?_
    refine jn_keep [1, 3, 4, 5, 6, 7] [1] (.cons rfl (.cons rfl (.cons rfl (.cons rfl (.cons rfl (.cons rfl .nil)))))) (.cons rfl .nil) ?_
    refine jn_seq (j_block ?_)
    refine j_loopp (ι := Nat) (fun k => ⟨[(1, .optr 1 rScope.n 0 0), (3, .tv (rSlice (rInt .i64)) (ordV (scN s) (allD s)).1), (4, .raw (.int .i64 ((ordV (scN s) (allD s)).2))), (5, .tv (rSlice (rInt .i64)) (cycF (scN s) (allD s))), (6, .raw (.bool (ownB s k))), (7, .raw (.int .i64 ((k : Nat))))], [(1, ⟨rScope, [s]⟩)]⟩) (fun k => k ≤ scN s) (fun k => scN s - k) 0 (Nat.zero_le _) (fun a w hi => (Sub.inv ⟨(by repeat (first | exact SubS_nil | refine SubS_cons rfl (by first | rfl | (simp; done) | assumption) ?_)), (by repeat (first | exact SubH_nil | refine SubH_cons rfl (by first | rfl | (simp; done) | assumption) ?_))⟩ hi)) ?_
    rintro k hk
    have hN14 := hL.1
    have hNN : scN s = s.2.2.2.1.length := rfl
    refine j_seq (j_seq ?_)
    refine j_region ?_
    refine jg_adr _ rfl _ rfl rfl (op_move (.base rfl)) ?_
    refine jg_adr _ rfl _ rfl rfl (op_ofield fld25_3 (.base rfl)) ?_
    refine jg_adr _ rfl _ rfl rfl (op_oload ty22 (.base rfl) rfl rfl ln25_3) ?_
    refine jg_adr _ rfl _ rfl rfl (op_len Try.underlying22 (.base rfl)) ?_
    refine jg_adr _ rfl _ rfl rfl (op_lss (.base rfl) (.base rfl)) ?_
    refine jg_nil ?_
    refine jn_keep [1, 3, 4, 5, 6, 7, 28] [1] (.cons rfl (.cons rfl (.cons rfl (.cons rfl (.cons rfl (.cons rfl (.cons rfl .nil))))))) (.cons rfl .nil) ?_
    refine jn_seq ?_
    refine j_cond rfl (fun h7 => ?_) (fun h7 => ?_)
    · have h7 : k < scN s := by simp at h7; omega
      refine j_skip (jn_seq (j_seq (j_block ?_)))
      refine j_region ?_
      refine jg_adr _ rfl _ rfl rfl (op_move (.base rfl)) ?_
      refine jg_adr _ rfl _ rfl rfl (op_move (.base rfl)) ?_
      refine jg_gd _ _ _ _ _ _ rfl rfl rfl rfl rfl (fun hg => op_oload ty25 (.base rfl) rfl rfl (Lens.id _)) ?_
      refine jg_gd _ _ _ _ _ _ rfl rfl rfl rfl rfl (fun hg => op_move (.base rfl)) ?_
      refine jg_gd _ _ _ _ _ _ rfl rfl rfl rfl rfl (fun hg => op_call (trans_ok s _ hL) (.cons (.gd rfl hg) (.cons (.gd rfl hg) .nil)) rfl rfl) ?_
      refine jg_gd _ _ _ _ _ _ rfl rfl rfl rfl rfl (fun hg => op_move (.base rfl)) ?_
      refine jg_gd _ _ _ _ _ _ rfl rfl rfl rfl rfl (fun hg => op_call (in_ok _ _) (.cons (.gd rfl hg) (.cons (.gd rfl hg) .nil)) rfl rfl) ?_
      refine jg_adr _ rfl _ rfl rfl (op_pick_or (.base rfl) (.base rfl) rfl (by intro h; first | (rw [h]; rfl) | (rw [hg, h]; rfl) | (rw [h, hg]; rfl) | simp_all)) ?_
      refine jg_adr _ rfl _ rfl rfl (op_assign (.base rfl)) ?_
      refine jg_nil ?_
      refine jn_keep [1, 3, 4, 5, 6, 7] [1] (.cons rfl (.cons rfl (.cons rfl (.cons rfl (.cons rfl (.cons rfl .nil)))))) (.cons rfl .nil) ?_
      refine jn_blk (jn_seq ?_)
      refine j_region ?_
      refine jg_adr _ rfl _ rfl rfl (op_move (.base rfl)) ?_
      refine jg_adr _ rfl _ rfl rfl (op_add (.base rfl) (.base rfl) (w64 (by omega))) ?_
      refine jg_adr _ rfl _ rfl rfl (op_assign (.base rfl)) ?_
      refine jg_nil ?_
      refine jn_keep [1, 3, 4, 5, 6, 7] [1] (.cons rfl (.cons rfl (.cons rfl (.cons rfl (.cons rfl (.cons rfl .nil)))))) (.cons rfl .nil) ?_
      exact jn_loop (fun a w hi => ⟨k + 1, (by first | omega | (simp; omega)), (by omega), Sub.inv ⟨(by repeat (first | exact SubS_nil | refine SubS_cons rfl (by first | rfl | (simp; done) | assumption | (exact congrArg (fun b => SV.raw (.bool b)) rfl)) ?_)), (by repeat (first | exact SubH_nil | refine SubH_cons rfl (by first | rfl | (simp; done) | assumption) ?_))⟩ hi⟩)
    · have h7 : k = scN s := by simp at h7; omega
      subst h7
      refine j_exit (je_seq (je_loop (je_blk (jn_seq (j_seq (j_seq ?_))))))
      refine j_region ?_
      refine jg_adr _ rfl _ rfl rfl (op_move (.base rfl)) ?_
      refine jg_adr _ rfl _ rfl rfl (op_neq (.base rfl) (.base rfl)) ?_
      refine jg_adr _ rfl _ rfl rfl (op_move (.base rfl)) ?_
      refine jg_adr _ rfl _ rfl rfl (op_neq_bool Try.underlying4 (.base rfl) (.base rfl)) ?_
      refine jg_adr _ rfl _ rfl rfl (op_move (.base rfl)) ?_
      refine jg_gd _ _ _ _ _ _ rfl rfl rfl rfl rfl (fun hg => op_move (.base rfl)) ?_
      refine jg_gd _ _ _ _ _ _ rfl rfl rfl rfl rfl (fun hg => op_move (.base rfl)) ?_
      refine jg_gd _ _ _ _ _ _ rfl rfl rfl rfl rfl (fun hg => op_len Try.underlying28 (.gd rfl hg)) ?_
      refine jg_gd _ _ _ _ _ _ rfl rfl rfl rfl rfl (fun hg => op_gtr (.gd rfl hg) (.base rfl)) ?_
      refine jg_gd _ _ _ _ _ _ rfl rfl rfl rfl rfl (fun hg => op_neq_bool Try.underlying4 (.gd rfl hg) (.gd rfl hg)) ?_
      refine jg_adr _ rfl _ rfl rfl (op_pick_or (.base rfl) (.base rfl) rfl (by intro h; first | (rw [h]; rfl) | (rw [hg, h]; rfl) | (rw [h, hg]; rfl) | simp_all)) ?_
      refine jg_nil ?_
      refine jn_keep [1, 3, 4, 5, 6, 49] [1] (.cons rfl (.cons rfl (.cons rfl (.cons rfl (.cons rfl (.cons rfl .nil)))))) (.cons rfl .nil) ?_
      refine jn_seq ?_
      refine j_cond rfl (fun h10 => ?_) (fun h10 => ?_)
      · exfalso; rw [ownV s] at h10; have hcl := cyc_len s; cases hb : ownB s (scN s) <;> simp [hb, hcl] at h10 <;> (rw [hb] at hcl; simp at hcl; omega)
      · skip
        refine j_skip (jn_seq (j_seq (j_seq ?_)))
        refine j_region ?_
        refine jg_adr _ rfl _ rfl rfl (op_move (.base rfl)) ?_
        refine jg_nil ?_
        refine jn_keep [1, 3, 4, 5, 50] [1] (.cons rfl (.cons rfl (.cons rfl (.cons rfl (.cons rfl .nil))))) (.cons rfl .nil) ?_
        refine jn_seq ?_
        refine j_cond rfl (fun h12 => ?_) (fun h12 => ?_)
        · have hb : ownB s (scN s) = true := by simpa using h12
          have hO := ownV s
          rw [if_pos hb] at hO
          have hcl := cyc_len s
          rw [hb, decide_eq_true_iff] at hcl
          have hcn : (cycF (scN s) (allD s)).length ≤ 14 := by
            obtain ⟨L, a, q, e⟩ := cyc_fnd hb
            have := q.ln
            rw [e, pthR_len]; have := q.l1; omega
          refine j_seq (j_seq ?_)
          refine j_region ?_
          refine jg_adr _ rfl _ rfl rfl (op_assign (.base rfl)) ?_
          refine jg_nil ?_
          refine jn_keep [1, 3, 4, 5, 8] [1] (.cons rfl (.cons rfl (.cons rfl (.cons rfl (.cons rfl .nil))))) (.cons rfl .nil) ?_
          refine jn_seq (j_block ?_)
          refine j_loopp (ι := Nat) (fun i => ⟨[(1, .optr 1 rScope.n 0 0), (3, .tv (rSlice (rInt .i64)) (ordV (scN s) (allD s)).1), (4, .raw (.int .i64 ((ordV (scN s) (allD s)).2))), (5, .tv (rSlice (rInt .i64)) (cycF (scN s) (allD s))), (8, .raw (.int .i64 ((i : Nat))))], [(1, ⟨rScope, [s]⟩)]⟩) (fun i => i ≤ (cycF (scN s) (allD s)).length) (fun i => (cycF (scN s) (allD s)).length - i) 0 (Nat.zero_le _) (fun a w hi => (Sub.inv ⟨(by repeat (first | exact SubS_nil | refine SubS_cons rfl (by first | rfl | (simp; done) | assumption) ?_)), (by repeat (first | exact SubH_nil | refine SubH_cons rfl (by first | rfl | (simp; done) | assumption) ?_))⟩ hi)) ?_
          rintro i hi
          refine j_seq (j_seq ?_)
          refine j_region ?_
          refine jg_adr _ rfl _ rfl rfl (op_move (.base rfl)) ?_
          refine jg_adr _ rfl _ rfl rfl (op_move (.base rfl)) ?_
          refine jg_adr _ rfl _ rfl rfl (op_len Try.underlying28 (.base rfl)) ?_
          refine jg_adr _ rfl _ rfl rfl (op_lss (.base rfl) (.base rfl)) ?_
          refine jg_nil ?_
          refine jn_keep [1, 3, 4, 5, 8, 54] [1] (.cons rfl (.cons rfl (.cons rfl (.cons rfl (.cons rfl (.cons rfl .nil)))))) (.cons rfl .nil) ?_
          refine jn_seq ?_
          refine j_cond rfl (fun h14 => ?_) (fun h14 => ?_)
          · have h14 : i < (cycF (scN s) (allD s)).length := by simp at h14; omega
            have hed := cyc_edge hb h14 hcl
            refine j_skip (jn_seq (j_seq (j_block (j_seq ?_))))
            refine j_region ?_
            refine jg_adr _ rfl _ rfl rfl (op_move (.base rfl)) ?_
            refine jg_adr _ rfl _ rfl rfl (op_index Try.underlying28 ty3 (.base rfl) (.base rfl) rfl (List.getElem?_eq_getElem (by first | omega | (simp; done) | (simp; omega) | (simp at hg; omega)))) ?_
            refine jg_adr _ rfl _ rfl rfl (op_load ty3 (.base rfl)) ?_
            refine jg_adr _ rfl _ rfl rfl (op_assign (.base rfl)) ?_
            refine jg_nil ?_
            refine jn_keep [1, 3, 4, 5, 8, 9] [1] (.cons rfl (.cons rfl (.cons rfl (.cons rfl (.cons rfl (.cons rfl .nil)))))) (.cons rfl .nil) ?_
            refine jn_seq (j_seq (j_seq ?_))
            refine j_region ?_
            refine jg_adr _ rfl _ rfl rfl (op_move (.base rfl)) ?_
            refine jg_adr _ rfl _ rfl rfl (op_add (.base rfl) (.base rfl) (w64 (by omega))) ?_
            refine jg_adr _ rfl _ rfl rfl (op_move (.base rfl)) ?_
            refine jg_adr _ rfl _ rfl rfl (op_len Try.underlying28 (.base rfl)) ?_
            refine jg_adr _ rfl _ rfl rfl (op_lss (.base rfl) (.base rfl)) ?_
            refine jg_nil ?_
            refine jn_keep [1, 3, 4, 5, 8, 9, 64] [1] (.cons rfl (.cons rfl (.cons rfl (.cons rfl (.cons rfl (.cons rfl (.cons rfl .nil))))))) (.cons rfl .nil) ?_
            refine jn_seq ?_
            refine j_cond rfl (fun h17 => ?_) (fun h17 => ?_)
            · have h17 : i + 1 < (cycF (scN s) (allD s)).length := by simp at h17; omega
              rw [dif_pos h17] at hed
              refine j_region ?_
              refine jg_adr _ rfl _ rfl rfl (op_move (.base rfl)) ?_
              refine jg_adr _ rfl _ rfl rfl (op_move (.base rfl)) ?_
              refine jg_adr _ rfl _ rfl rfl (op_add (.base rfl) (.base rfl) (w64 (by omega))) ?_
              refine jg_adr _ rfl _ rfl rfl (op_index Try.underlying28 ty3 (.base rfl) (.base rfl) (show ((i : Nat) : Int) + 1 = ((i + 1 : Nat) : Int) by omega) (List.getElem?_eq_getElem (by first | omega | (simp; done) | (simp; omega) | (simp at hg; omega)))) ?_
              refine jg_adr _ rfl _ rfl rfl (op_load ty3 (.base rfl)) ?_
              refine jg_adr _ rfl _ rfl rfl (op_assign (.base rfl)) ?_
              refine jg_nil ?_
              refine jn_keep [1, 3, 4, 5, 8, 9] [1] (.cons rfl (.cons rfl (.cons rfl (.cons rfl (.cons rfl (.cons rfl .nil)))))) (.cons rfl .nil) ?_
              refine jn_seq (j_seq ?_)
              refine j_draw mo (by kernel_rfl) (
                AS.cons _ _ rfl (ga_adr rfl rfl rfl (op_oload ty25 (.base rfl) rfl rfl (Lens.id _))) (
                  AS.cons _ _ rfl (ga_adr rfl rfl rfl (op_move (.base rfl))) (
                  AS.cons _ _ rfl (ga_adr rfl rfl rfl (op_move (.base rfl))) (
                  AS.cons _ _ rfl (ga_adr rfl rfl rfl (op_index Try.underlying28 ty3 (.base rfl) (.base rfl) rfl (List.getElem?_eq_getElem (by first | omega | (simp; done) | (simp; omega) | (simp at hg; omega))))) (
                  AS.cons _ _ rfl (ga_adr rfl rfl rfl (op_load ty3 (.base rfl))) (
                  AS.cons _ _ rfl (ga_adr rfl rfl rfl (op_call (direct_ok s _ hL) (.cons (.base rfl) (.cons (.base rfl) .nil)) rfl rfl)) (
                  AS.cons _ _ rfl (ga_adr rfl rfl rfl (op_move (.base rfl))) (
                  AS.cons _ _ rfl (ga_adr rfl rfl rfl (op_call (in_ok _ _) (.cons (.base rfl) (.cons (.base rfl) .nil)) rfl rfl)) (
                  AS.cons _ _ rfl (ga_adr rfl rfl rfl (op_not (.base rfl))) (
                  AS.cons _ _ rfl (ga_adr rfl rfl rfl (op_move (.base rfl))) (
                  AS.cons _ _ rfl (ga_gd _ _ _ _ rfl rfl rfl rfl rfl (fun hg => op_move (.base rfl))) (
                  AS.cons _ _ rfl (ga_gd _ _ _ _ rfl rfl rfl rfl rfl (fun hg => op_move (.base rfl))) (
                  AS.cons _ _ rfl (ga_gd _ _ _ _ rfl rfl rfl rfl rfl (fun hg => op_slice Try.underlying28 ty3 (.gd rfl hg) rfl ⟨_, _, (.gd rfl hg), rfl⟩ (by omega) (by omega))) (
                  AS.cons _ _ rfl (ga_gd _ _ _ _ rfl rfl rfl rfl rfl (fun hg => op_move (.base rfl))) (
                  AS.cons _ _ rfl (ga_gd _ _ _ _ rfl rfl rfl rfl rfl (fun hg => op_move (.base rfl))) (
                  AS.cons _ _ rfl (ga_gd _ _ _ _ rfl rfl rfl rfl rfl (fun hg => op_index Try.underlying28 ty3 (.gd rfl hg) (.gd rfl hg) rfl (getD_some (z := (0 : Int)) (by first | omega | (simp; done) | (simp; omega) | (simp at hg; omega) | (simp at hg; simp; omega))))) (
                  AS.cons _ _ rfl (ga_gd _ _ _ _ rfl rfl rfl rfl rfl (fun hg => op_load ty3 (.gd rfl hg))) (
                  AS.cons _ _ rfl (ga_gd _ _ _ _ rfl rfl rfl rfl rfl (fun hg => op_call (in_ok _ _) (.cons (.gd rfl hg) (.cons (.gd rfl hg) .nil)) rfl rfl)) (
                  AS.cons _ _ rfl (ga_adr rfl rfl rfl (op_pick_or (.base rfl) (.base rfl) rfl (by intro h; first | (rw [h]; rfl) | (rw [hg, h]; rfl) | (rw [h, hg]; rfl) | simp_all))) (
                  AS.nil)))))))))))))))))))) ?_
              refine jn_keep [1, 3, 4, 5, 8, 88] [1] (.cons rfl (.cons rfl (.cons rfl (.cons rfl (.cons rfl (.cons rfl .nil)))))) (.cons rfl .nil) ?_
              refine jn_seq ?_
              refine j_cond rfl (fun h19 => ?_) (fun h19 => ?_)
              · exfalso; simp [List.getElem?_eq_getElem h14, hed.1, hed.2] at h19
              · skip
                refine j_skip (jn_blk (jn_seq ?_))
                refine j_region ?_
                refine jg_adr _ rfl _ rfl rfl (op_move (.base rfl)) ?_
                refine jg_adr _ rfl _ rfl rfl (op_add (.base rfl) (.base rfl) (w64 (by omega))) ?_
                refine jg_adr _ rfl _ rfl rfl (op_assign (.base rfl)) ?_
                refine jg_nil ?_
                refine jn_keep [1, 3, 4, 5, 8] [1] (.cons rfl (.cons rfl (.cons rfl (.cons rfl (.cons rfl .nil))))) (.cons rfl .nil) ?_
                exact jn_loop (fun a w hi => ⟨i + 1, (by first | omega | (simp; omega)), (by omega), Sub.inv ⟨(by repeat (first | exact SubS_nil | refine SubS_cons rfl (by first | rfl | (simp; done) | assumption) ?_)), (by repeat (first | exact SubH_nil | refine SubH_cons rfl (by first | rfl | (simp; done) | assumption) ?_))⟩ hi⟩)
            · have h17 : ¬ (i + 1 < (cycF (scN s) (allD s)).length) := by simp at h17; omega
              rw [dif_neg h17] at hed
              refine j_skip (jn_seq (j_seq ?_))
              refine j_draw mo (by kernel_rfl) (
                AS.cons _ _ rfl (ga_adr rfl rfl rfl (op_oload ty25 (.base rfl) rfl rfl (Lens.id _))) (
                  AS.cons _ _ rfl (ga_adr rfl rfl rfl (op_move (.base rfl))) (
                  AS.cons _ _ rfl (ga_adr rfl rfl rfl (op_move (.base rfl))) (
                  AS.cons _ _ rfl (ga_adr rfl rfl rfl (op_index Try.underlying28 ty3 (.base rfl) (.base rfl) rfl (List.getElem?_eq_getElem (by first | omega | (simp; done) | (simp; omega) | (simp at hg; omega))))) (
                  AS.cons _ _ rfl (ga_adr rfl rfl rfl (op_load ty3 (.base rfl))) (
                  AS.cons _ _ rfl (ga_adr rfl rfl rfl (op_call (direct_ok s _ hL) (.cons (.base rfl) (.cons (.base rfl) .nil)) rfl rfl)) (
                  AS.cons _ _ rfl (ga_adr rfl rfl rfl (op_move (.base rfl))) (
                  AS.cons _ _ rfl (ga_adr rfl rfl rfl (op_call (in_ok _ _) (.cons (.base rfl) (.cons (.base rfl) .nil)) rfl rfl)) (
                  AS.cons _ _ rfl (ga_adr rfl rfl rfl (op_not (.base rfl))) (
                  AS.cons _ _ rfl (ga_adr rfl rfl rfl (op_move (.base rfl))) (
                  AS.cons _ _ rfl (ga_gd _ _ _ _ rfl rfl rfl rfl rfl (fun hg => op_move (.base rfl))) (
                  AS.cons _ _ rfl (ga_gd _ _ _ _ rfl rfl rfl rfl rfl (fun hg => op_move (.base rfl))) (
                  AS.cons _ _ rfl (ga_gd _ _ _ _ rfl rfl rfl rfl rfl (fun hg => op_slice Try.underlying28 ty3 (.gd rfl hg) rfl ⟨_, _, (.gd rfl hg), rfl⟩ (by omega) (by omega))) (
                  AS.cons _ _ rfl (ga_gd _ _ _ _ rfl rfl rfl rfl rfl (fun hg => op_move (.base rfl))) (
                  AS.cons _ _ rfl (ga_gd _ _ _ _ rfl rfl rfl rfl rfl (fun hg => op_move (.base rfl))) (
                  AS.cons _ _ rfl (ga_gd _ _ _ _ rfl rfl rfl rfl rfl (fun hg => op_index Try.underlying28 ty3 (.gd rfl hg) (.gd rfl hg) rfl (getD_some (z := (0 : Int)) (by first | omega | (simp; done) | (simp; omega) | (simp at hg; omega) | (simp at hg; simp; omega))))) (
                  AS.cons _ _ rfl (ga_gd _ _ _ _ rfl rfl rfl rfl rfl (fun hg => op_load ty3 (.gd rfl hg))) (
                  AS.cons _ _ rfl (ga_gd _ _ _ _ rfl rfl rfl rfl rfl (fun hg => op_call (in_ok _ _) (.cons (.gd rfl hg) (.cons (.gd rfl hg) .nil)) rfl rfl)) (
                  AS.cons _ _ rfl (ga_adr rfl rfl rfl (op_pick_or (.base rfl) (.base rfl) rfl (by intro h; first | (rw [h]; rfl) | (rw [hg, h]; rfl) | (rw [h, hg]; rfl) | simp_all))) (
                  AS.nil)))))))))))))))))))) ?_
              refine jn_keep [1, 3, 4, 5, 8, 88] [1] (.cons rfl (.cons rfl (.cons rfl (.cons rfl (.cons rfl (.cons rfl .nil)))))) (.cons rfl .nil) ?_
              refine jn_seq ?_
              refine j_cond rfl (fun h19 => ?_) (fun h19 => ?_)
              · exfalso; simp [List.getElem?_eq_getElem h14, hed.1, hed.2] at h19
              · skip
                refine j_skip (jn_blk (jn_seq ?_))
                refine j_region ?_
                refine jg_adr _ rfl _ rfl rfl (op_move (.base rfl)) ?_
                refine jg_adr _ rfl _ rfl rfl (op_add (.base rfl) (.base rfl) (w64 (by omega))) ?_
                refine jg_adr _ rfl _ rfl rfl (op_assign (.base rfl)) ?_
                refine jg_nil ?_
                refine jn_keep [1, 3, 4, 5, 8] [1] (.cons rfl (.cons rfl (.cons rfl (.cons rfl (.cons rfl .nil))))) (.cons rfl .nil) ?_
                exact jn_loop (fun a w hi => ⟨i + 1, (by first | omega | (simp; omega)), (by omega), Sub.inv ⟨(by repeat (first | exact SubS_nil | refine SubS_cons rfl (by first | rfl | (simp; done) | assumption) ?_)), (by repeat (first | exact SubH_nil | refine SubH_cons rfl (by first | rfl | (simp; done) | assumption) ?_))⟩ hi⟩)
          · skip
            refine j_exit (je_seq (je_loop (je_blk (jn_seq (j_seq ?_)))))
            refine j_region ?_
            refine jg_adr _ rfl _ rfl rfl (op_move (.base rfl)) ?_
            refine jg_adr _ rfl _ rfl rfl (op_eql (.base rfl) (.base rfl)) ?_
            refine jg_adr _ rfl _ rfl rfl (op_move (.base rfl)) ?_
            refine jg_gd _ _ _ _ _ _ rfl rfl rfl rfl rfl (fun hg => op_move (.base rfl)) ?_
            refine jg_gd _ _ _ _ _ _ rfl rfl rfl rfl rfl (fun hg => op_len Try.underlying28 (.gd rfl hg)) ?_
            refine jg_gd _ _ _ _ _ _ rfl rfl rfl rfl rfl (fun hg => op_eql (.gd rfl hg) (.base rfl)) ?_
            refine jg_adr _ rfl _ rfl rfl (op_pick_and (.base rfl) (.base rfl) rfl (by intro h; first | (rw [h]; rfl) | (rw [hg, h]; rfl) | (rw [h, hg]; rfl) | simp_all)) ?_
            refine jg_adr _ rfl _ rfl rfl (op_move (.base rfl)) ?_
            refine jg_gd _ _ _ _ _ _ rfl rfl rfl rfl rfl (fun hg => op_call awake_ok .nil rfl rfl) ?_
            refine jg_adr _ rfl _ rfl rfl (op_pick_and (.base rfl) (.base rfl) rfl (by intro h; first | (rw [h]; rfl) | (rw [hg, h]; rfl) | (rw [h, hg]; rfl) | simp_all)) ?_
            refine jg_adr _ rfl _ rfl rfl (op_assign (.base rfl)) ?_
            refine jg_nil ?_
            refine jn_keep [2] [] (.cons rfl .nil) .nil ?_
            refine jn_seq (j_ret (jr_seq ?_))
            exact jr_fin1 Try.results5 (res_tmp rfl) rfl (rb (by rw [hO]; rfl))
        · have hb : ownB s (scN s) = false := by simpa using h12
          have hO := ownV s
          rw [if_neg (by rw [hb]; decide)] at hO
          have hol := ord_len hb
          rw [hO]
          refine j_skip (jn_seq (j_seq (j_seq ?_)))
          refine j_region ?_
          refine jg_adr _ rfl _ rfl rfl (op_move (.base rfl)) ?_
          refine jg_adr _ rfl _ rfl rfl (op_len Try.underlying28 (.base rfl)) ?_
          refine jg_adr _ rfl _ rfl rfl (op_ofield fld25_3 (.base rfl)) ?_
          refine jg_adr _ rfl _ rfl rfl (op_oload ty22 (.base rfl) rfl rfl ln25_3) ?_
          refine jg_adr _ rfl _ rfl rfl (op_len Try.underlying22 (.base rfl)) ?_
          refine jg_adr _ rfl _ rfl rfl (op_neq (.base rfl) (.base rfl)) ?_
          refine jg_nil ?_
          refine jn_keep [1, 3, 104] [1] (.cons rfl (.cons rfl (.cons rfl .nil))) (.cons rfl .nil) ?_
          refine jn_seq ?_
          refine j_cond rfl (fun h22 => ?_) (fun h22 => ?_)
          · exfalso; simp [hol] at h22
          · skip
            refine j_skip (jn_seq (j_seq (j_seq ?_)))
            refine j_region ?_
            refine jg_adr _ rfl _ rfl rfl (op_assign (.base rfl)) ?_
            refine jg_nil ?_
            refine jn_keep [1, 3, 10] [1] (.cons rfl (.cons rfl (.cons rfl .nil))) (.cons rfl .nil) ?_
            refine jn_seq (j_block ?_)
            refine j_loopp (ι := Nat) (fun i => ⟨[(1, .optr 1 rScope.n 0 0), (3, .tv (rSlice (rInt .i64)) (ordR (scN s) (allD s) (scN s))), (10, .raw (.int .i64 ((i : Nat))))], [(1, ⟨rScope, [s]⟩)]⟩) (fun i => i ≤ (ordR (scN s) (allD s) (scN s)).length) (fun i => (ordR (scN s) (allD s) (scN s)).length - i) 0 (Nat.zero_le _) (fun a w hi => (Sub.inv ⟨(by repeat (first | exact SubS_nil | refine SubS_cons rfl (by first | rfl | (simp; done) | assumption) ?_)), (by repeat (first | exact SubH_nil | refine SubH_cons rfl (by first | rfl | (simp; done) | assumption) ?_))⟩ hi)) ?_
            rintro i hi
            refine j_seq (j_seq ?_)
            refine j_region ?_
            refine jg_adr _ rfl _ rfl rfl (op_move (.base rfl)) ?_
            refine jg_adr _ rfl _ rfl rfl (op_move (.base rfl)) ?_
            refine jg_adr _ rfl _ rfl rfl (op_len Try.underlying28 (.base rfl)) ?_
            refine jg_adr _ rfl _ rfl rfl (op_lss (.base rfl) (.base rfl)) ?_
            refine jg_nil ?_
            refine jn_keep [1, 3, 10, 108] [1] (.cons rfl (.cons rfl (.cons rfl (.cons rfl .nil)))) (.cons rfl .nil) ?_
            refine jn_seq ?_
            refine j_cond rfl (fun h25 => ?_) (fun h25 => ?_)
            · have h25 : i < (ordR (scN s) (allD s) (scN s)).length := by simp at h25; omega
              have htl := trns_len s (ordR (scN s) (allD s) (scN s))[i]
              have hnd := nodup_at (ordR_nd (scN s) (allD s) (scN s)) h25
              refine j_skip (jn_seq (j_seq (j_block (j_seq ?_))))
              refine j_draw mo (by kernel_rfl) (
                AS.cons _ _ rfl (ga_adr rfl rfl rfl (op_oload ty25 (.base rfl) rfl rfl (Lens.id _))) (
                  AS.cons _ _ rfl (ga_adr rfl rfl rfl (op_move (.base rfl))) (
                  AS.cons _ _ rfl (ga_adr rfl rfl rfl (op_move (.base rfl))) (
                  AS.cons _ _ rfl (ga_adr rfl rfl rfl (op_index Try.underlying28 ty3 (.base rfl) (.base rfl) rfl (List.getElem?_eq_getElem (by first | omega | (simp; done) | (simp; omega) | (simp at hg; omega))))) (
                  AS.cons _ _ rfl (ga_adr rfl rfl rfl (op_load ty3 (.base rfl))) (
                  AS.cons _ _ rfl (ga_adr rfl rfl rfl (op_call (trans_ok s _ hL) (.cons (.base rfl) (.cons (.base rfl) .nil)) rfl rfl)) (
                  AS.cons _ _ rfl (ga_adr rfl rfl rfl (op_assign (.base rfl))) (
                  AS.nil)))))))) ?_
              refine jn_keep [1, 3, 10, 11] [1] (.cons rfl (.cons rfl (.cons rfl (.cons rfl .nil)))) (.cons rfl .nil) ?_
              refine jn_seq (j_seq (j_seq ?_))
              refine j_region ?_
              refine jg_adr _ rfl _ rfl rfl (op_assign (.base rfl)) ?_
              refine jg_nil ?_
              refine jn_keep [1, 3, 10, 11, 12] [1] (.cons rfl (.cons rfl (.cons rfl (.cons rfl (.cons rfl .nil))))) (.cons rfl .nil) ?_
              refine jn_seq (j_block ?_)
              refine j_loopp (ι := Nat) (fun k => ⟨[(1, .optr 1 rScope.n 0 0), (3, .tv (rSlice (rInt .i64)) (ordR (scN s) (allD s) (scN s))), (10, .raw (.int .i64 ((i : Nat)))), (11, .tv (rSlice (rInt .i64)) (trns s (ordR (scN s) (allD s) (scN s))[i])), (12, .raw (.int .i64 ((k : Nat))))], [(1, ⟨rScope, [s]⟩)]⟩) (fun k => k ≤ (trns s (ordR (scN s) (allD s) (scN s))[i]).length) (fun k => (trns s (ordR (scN s) (allD s) (scN s))[i]).length - k) 0 (Nat.zero_le _) (fun a w hi => (Sub.inv ⟨(by repeat (first | exact SubS_nil | refine SubS_cons rfl (by first | rfl | (simp; done) | assumption) ?_)), (by repeat (first | exact SubH_nil | refine SubH_cons rfl (by first | rfl | (simp; done) | assumption) ?_))⟩ hi)) ?_
              rintro k hk
              refine j_seq (j_seq ?_)
              refine j_region ?_
              refine jg_adr _ rfl _ rfl rfl (op_move (.base rfl)) ?_
              refine jg_adr _ rfl _ rfl rfl (op_move (.base rfl)) ?_
              refine jg_adr _ rfl _ rfl rfl (op_len Try.underlying28 (.base rfl)) ?_
              refine jg_adr _ rfl _ rfl rfl (op_lss (.base rfl) (.base rfl)) ?_
              refine jg_nil ?_
              refine jn_keep [1, 3, 10, 11, 12, 120] [1] (.cons rfl (.cons rfl (.cons rfl (.cons rfl (.cons rfl (.cons rfl .nil)))))) (.cons rfl .nil) ?_
              refine jn_seq ?_
              refine j_cond rfl (fun h29 => ?_) (fun h29 => ?_)
              · have h29 : k < (trns s (ordR (scN s) (allD s) (scN s))[i]).length := by simp at h29; omega
                have haf := ord_aft h25 (List.getElem_mem h29)
                refine j_skip (jn_seq (j_seq (j_block (j_seq ?_))))
                refine j_draw mo (by kernel_rfl) (
                  AS.cons _ _ rfl (ga_adr rfl rfl rfl (op_move (.base rfl))) (
                    AS.cons _ _ rfl (ga_adr rfl rfl rfl (op_move (.base rfl))) (
                    AS.cons _ _ rfl (ga_adr rfl rfl rfl (op_slice Try.underlying28 ty3 (.base rfl) rfl ⟨_, _, (.base rfl), rfl⟩ (by omega) (by omega))) (
                    AS.cons _ _ rfl (ga_adr rfl rfl rfl (op_move (.base rfl))) (
                    AS.cons _ _ rfl (ga_adr rfl rfl rfl (op_move (.base rfl))) (
                    AS.cons _ _ rfl (ga_adr rfl rfl rfl (op_index Try.underlying28 ty3 (.base rfl) (.base rfl) rfl (List.getElem?_eq_getElem (by first | omega | (simp; done) | (simp; omega) | (simp at hg; omega))))) (
                    AS.cons _ _ rfl (ga_adr rfl rfl rfl (op_load ty3 (.base rfl))) (
                    AS.cons _ _ rfl (ga_adr rfl rfl rfl (op_call (in_ok _ _) (.cons (.base rfl) (.cons (.base rfl) .nil)) rfl rfl)) (
                    AS.cons _ _ rfl (ga_adr rfl rfl rfl (op_not (.base rfl))) (
                    AS.nil)))))))))) ?_
                refine jn_keep [1, 3, 10, 11, 12, 131] [1] (.cons rfl (.cons rfl (.cons rfl (.cons rfl (.cons rfl (.cons rfl .nil)))))) (.cons rfl .nil) ?_
                refine jn_seq ?_
                refine j_cond rfl (fun h31 => ?_) (fun h31 => ?_)
                · exfalso; simp [haf] at h31
                · skip
                  refine j_skip (jn_blk (jn_seq ?_))
                  refine j_region ?_
                  refine jg_adr _ rfl _ rfl rfl (op_move (.base rfl)) ?_
                  refine jg_adr _ rfl _ rfl rfl (op_add (.base rfl) (.base rfl) (w64 (by omega))) ?_
                  refine jg_adr _ rfl _ rfl rfl (op_assign (.base rfl)) ?_
                  refine jg_nil ?_
                  refine jn_keep [1, 3, 10, 11, 12] [1] (.cons rfl (.cons rfl (.cons rfl (.cons rfl (.cons rfl .nil))))) (.cons rfl .nil) ?_
                  exact jn_loop (fun a w hi => ⟨k + 1, (by first | omega | (simp; omega)), (by omega), Sub.inv ⟨(by repeat (first | exact SubS_nil | refine SubS_cons rfl (by first | rfl | (simp; done) | assumption) ?_)), (by repeat (first | exact SubH_nil | refine SubH_cons rfl (by first | rfl | (simp; done) | assumption) ?_))⟩ hi⟩)
              · skip
                refine j_exit (je_seq (je_loop (je_blk (jn_seq (j_seq ?_)))))
                refine j_draw mo (by kernel_rfl) (
                  AS.cons _ _ rfl (ga_adr rfl rfl rfl (op_move (.base rfl))) (
                    AS.cons _ _ rfl (ga_adr rfl rfl rfl (op_move (.base rfl))) (
                    AS.cons _ _ rfl (ga_adr rfl rfl rfl (op_slice Try.underlying28 ty3 (.base rfl) rfl ⟨_, _, (.base rfl), rfl⟩ (by omega) (by omega))) (
                    AS.cons _ _ rfl (ga_adr rfl rfl rfl (op_move (.base rfl))) (
                    AS.cons _ _ rfl (ga_adr rfl rfl rfl (op_move (.base rfl))) (
                    AS.cons _ _ rfl (ga_adr rfl rfl rfl (op_index Try.underlying28 ty3 (.base rfl) (.base rfl) rfl (List.getElem?_eq_getElem (by first | omega | (simp; done) | (simp; omega) | (simp at hg; omega))))) (
                    AS.cons _ _ rfl (ga_adr rfl rfl rfl (op_load ty3 (.base rfl))) (
                    AS.cons _ _ rfl (ga_adr rfl rfl rfl (op_call (in_ok _ _) (.cons (.base rfl) (.cons (.base rfl) .nil)) rfl rfl)) (
                    AS.nil))))))))) ?_
                refine jn_keep [1, 3, 10, 139] [1] (.cons rfl (.cons rfl (.cons rfl (.cons rfl .nil)))) (.cons rfl .nil) ?_
                refine jn_seq ?_
                refine j_cond rfl (fun h33 => ?_) (fun h33 => ?_)
                · exfalso; simp [hnd] at h33
                · skip
                  refine j_skip (jn_blk (jn_seq ?_))
                  refine j_region ?_
                  refine jg_adr _ rfl _ rfl rfl (op_move (.base rfl)) ?_
                  refine jg_adr _ rfl _ rfl rfl (op_add (.base rfl) (.base rfl) (w64 (by omega))) ?_
                  refine jg_adr _ rfl _ rfl rfl (op_assign (.base rfl)) ?_
                  refine jg_nil ?_
                  refine jn_keep [1, 3, 10] [1] (.cons rfl (.cons rfl (.cons rfl .nil))) (.cons rfl .nil) ?_
                  exact jn_loop (fun a w hi => ⟨i + 1, (by first | omega | (simp; omega)), (by omega), Sub.inv ⟨(by repeat (first | exact SubS_nil | refine SubS_cons rfl (by first | rfl | (simp; done) | assumption) ?_)), (by repeat (first | exact SubH_nil | refine SubH_cons rfl (by first | rfl | (simp; done) | assumption) ?_))⟩ hi⟩)
            · skip
              refine j_exit (je_seq (je_loop (je_blk (jn_seq (j_seq ?_)))))
              refine j_region ?_
              refine jg_adr _ rfl _ rfl rfl (op_call awake_ok .nil rfl rfl) ?_
              refine jg_adr _ rfl _ rfl rfl (op_assign (.base rfl)) ?_
              refine jg_nil ?_
              refine jn_keep [2] [] (.cons rfl .nil) .nil ?_
              refine jn_seq (j_ret ?_)
              exact jr_fin1 Try.results5 (res_tmp rfl) rfl (rfl)

end Go.Proofs.Ytemcooggkcneiaa
