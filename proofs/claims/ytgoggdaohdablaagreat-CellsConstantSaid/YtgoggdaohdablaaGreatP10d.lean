import Derived.Test.YtgoggdaohdablaaGreatP10c
namespace Go.Proofs.YtgoggdaohdablaaGreat
open Go.Eng
set_option maxRecDepth 100000
set_option maxHeartbeats 4000000
set_option linter.unusedVariables false
set_option linter.unusedSimpArgs false


theorem set_rep {j : Nat} {suf : List Int} (x : Int) (h : 0 < j) : (List.replicate j 0 ++ suf).set (0 + (j - 1)) x = List.replicate (j - 1) 0 ++ x :: suf := by
  obtain ⟨i, rfl⟩ : ∃ i, j = i + 1 := ⟨j - 1, by omega⟩
  rw [Nat.zero_add, Nat.add_sub_cancel, List.replicate_succ', List.append_assoc, List.set_append_right _ _ (by simp)]; simp
theorem opd_step {starts suf full : List Int} {j : Nat} {t s : Int} (hj : 0 < j) (hs : starts[(t - 1).toNat]? = some s) (h : opd starts j t ++ suf = full) : opd starts (j - 1) s ++ (t - 1) :: suf = full := by
  obtain ⟨i, rfl⟩ : ∃ i, j = i + 1 := ⟨j - 1, by omega⟩
  rw [← h, opd, hs, Nat.add_sub_cancel, Option.getD_some, List.append_assoc]; rfl

theorem operands_ok (e : List TNode) (at_ : Int) : Ct Tryz.prog 31 [.tv (rSlice rNode) e, .raw (.int .i64 at_)] (.tv (rSlice (rInt .i64)) (opsF e at_)) := by
  refine ct_intro Tryz.func31 rfl rfl Tryz.ntmps31 rfl rfl ?_
  intro w0 ok0
  refine j_len 0 rfl (fun hl0 => ?_)
  refine j_seq ?_
  refine j_region ?_
  refine jg_adr _ rfl _ rfl rfl (op_assign (.base rfl)) ?_
  refine jg_nil ?_
  refine jn_keep [0, 1] [] (.cons rfl (.cons rfl .nil)) .nil ?_
  refine jn_seq (j_seq ?_)
  refine j_region ?_
  refine jg_adr _ rfl _ rfl rfl (op_move (.base rfl)) ?_
  refine jg_adr _ rfl _ rfl rfl (op_call (starts_ok e) (.cons (.base rfl) .nil) rfl rfl) ?_
  refine jg_adr _ rfl _ rfl rfl (op_move (.base rfl)) ?_
  refine jg_adr _ rfl _ rfl rfl (op_ext20 (.base rfl)) ?_
  refine jg_adr _ rfl _ rfl rfl (op_ext21 (.base rfl)) ?_
  refine jg_adr _ rfl _ rfl rfl (op_assign (.base rfl)) ?_
  refine jg_adr _ rfl _ rfl rfl (op_assign (.base rfl)) ?_
  refine jg_nil ?_
  refine jn_keep [0, 1, 5, 6] [] (.cons rfl (.cons rfl (.cons rfl (.cons rfl .nil)))) .nil ?_
  refine jn_seq (j_seq (j_seq ?_))
  refine j_region ?_
  refine jg_adr _ rfl _ rfl rfl (op_move (.base rfl)) ?_
  refine jg_adr _ rfl _ rfl rfl (op_neq (.base rfl) (.base rfl)) ?_
  refine jg_adr _ rfl _ rfl rfl (op_move (.base rfl)) ?_
  refine jg_gd _ _ _ _ _ _ rfl rfl rfl rfl rfl (fun hg => op_move (.base rfl)) ?_
  refine jg_gd _ _ _ _ _ _ rfl rfl rfl rfl rfl (fun hg => op_lss (.gd rfl hg) (.base rfl)) ?_
  refine jg_adr _ rfl _ rfl rfl (op_pick_or (.base rfl) (.base rfl) rfl (by intro h; first | (rw [h]; rfl) | (rw [hg, h]; rfl) | (rw [h, hg]; rfl) | simp_all)) ?_
  refine jg_adr _ rfl _ rfl rfl (op_move (.base rfl)) ?_
  refine jg_gd _ _ _ _ _ _ rfl rfl rfl rfl rfl (fun hg => op_move (.base rfl)) ?_
  refine jg_gd _ _ _ _ _ _ rfl rfl rfl rfl rfl (fun hg => op_move (.base rfl)) ?_
  refine jg_gd _ _ _ _ _ _ rfl rfl rfl rfl rfl (fun hg => op_len Tryz.underlying22 (.gd rfl hg)) ?_
  refine jg_gd _ _ _ _ _ _ rfl rfl rfl rfl rfl (fun hg => op_geq (.gd rfl hg) (.gd rfl hg)) ?_
  refine jg_adr _ rfl _ rfl rfl (op_pick_or (.base rfl) (.base rfl) rfl (by intro h; first | (rw [h]; rfl) | (rw [hg, h]; rfl) | (rw [h, hg]; rfl) | simp_all)) ?_
  refine jg_nil ?_
  refine jn_keep [0, 1, 5, 26] [] (.cons rfl (.cons rfl (.cons rfl (.cons rfl .nil)))) .nil ?_
  refine jn_seq ?_
  refine j_cond rfl (fun h2 => ?_) (fun h2 => ?_)
  · try simp at h2
    refine j_seq ?_
    refine j_region ?_
    refine jg_adr _ rfl _ rfl rfl (op_assign (.base rfl)) ?_
    refine jg_nil ?_
    refine jn_keep [4] [] (.cons rfl .nil) .nil ?_
    refine jn_seq (j_ret (jr_seq ?_))
    exact jr_fin1 Tryz.results31 (res_nil rfl) rfl (by unfold opsF; rw [if_pos (by omega)])
  · try simp at h2
    refine j_skip (jn_seq (j_seq ?_))
    obtain ⟨⟨h2a, h2b⟩, h2c⟩ : ((structF e).2.2 = 0 ∧ 0 ≤ at_) ∧ at_ < e.length := by first | exact h2 | omega
    obtain ⟨m, rfl⟩ : ∃ m : Nat, at_ = m := ⟨at_.toNat, by omega⟩
    obtain ⟨hl48, -, hlen, -, hops⟩ := structF_ok h2a
    obtain ⟨har0, hrs⟩ := hops m (by omega)
    obtain ⟨n, hn⟩ : ∃ n : Nat, arity (e[m]'(by omega)).1 = n := ⟨_, (Int.toNat_of_nonneg har0).symm⟩
    have hn3 : n ≤ 3 := by have := (arity_le (e[m]'(by omega)).1).2; omega
    have ctn : Ct Tryz.prog 29 [.raw (.int .i64 (e[m]'(by omega)).1)] (.raw (.int .i64 (n : Int))) := hn ▸ arity_ok _
    refine j_region ?_
    refine jg_adr _ rfl _ rfl rfl (op_move (.base rfl)) ?_
    refine jg_adr _ rfl _ rfl rfl (op_move (.base rfl)) ?_
    refine jg_adr _ rfl _ rfl rfl (op_index Tryz.underlying22 ty56 (.base rfl) (.base rfl) rfl (List.getElem?_eq_getElem (by first | omega | (simp; done) | (simp; omega) | (simp at hg; omega)))) ?_
    refine jg_adr _ rfl _ rfl rfl (op_field fld56_0 ln56_0 (.base rfl)) ?_
    refine jg_adr _ rfl _ rfl rfl (op_load ty3 (.base rfl)) ?_
    refine jg_adr _ rfl _ rfl rfl (op_call ctn (.cons (.base rfl) .nil) rfl rfl) ?_
    refine jg_os _ rfl (op_make Tryz.underlying28 ty3 z3 rfl by3 (.base rfl) (.base rfl) (by omega) (by unfold maxLen; omega) rfl rfl rfl) ?_
    refine jg_adr _ rfl _ rfl rfl (op_assign (.base rfl)) ?_
    refine jg_nil ?_
    refine jn_keep [1, 5, 7] [33] (.cons rfl (.cons rfl (.cons rfl .nil))) (.cons rfl .nil) ?_
    refine jn_seq (j_seq ?_)
    refine j_region ?_
    refine jg_adr _ rfl _ rfl rfl (op_move (.base rfl)) ?_
    refine jg_adr _ rfl _ rfl rfl (op_sub (.base rfl) (.base rfl) (w64 (by omega))) ?_
    refine jg_adr _ rfl _ rfl rfl (op_assign (.base rfl)) ?_
    refine jg_nil ?_
    refine jn_keep [5, 7, 8] [33] (.cons rfl (.cons rfl (.cons rfl .nil))) (.cons rfl .nil) ?_
    refine jn_seq (j_seq (j_seq ?_))
    refine j_region ?_
    refine jg_adr _ rfl _ rfl rfl (op_move (.base rfl)) ?_
    refine jg_adr _ rfl _ rfl rfl (op_len_own Tryz.underlying28 (.base rfl)) ?_
    refine jg_adr _ rfl _ rfl rfl (op_sub (.base rfl) (.base rfl) (w64 (by omega))) ?_
    refine jg_adr _ rfl _ rfl rfl (op_assign (.base rfl)) ?_
    refine jg_nil ?_
    refine jn_keep [5, 7, 8, 9] [33] (.cons rfl (.cons rfl (.cons rfl (.cons rfl .nil)))) (.cons rfl .nil) ?_
    refine jn_seq (j_block ?_)
    refine j_loopp (ι := (Nat × Int × List Int)) (fun (j, t, suf) => ⟨[(5, .tv (rSlice (rInt .i64)) (structF e).1), (7, .own 33 1 0 n), (8, .raw (.int .i64 (t - 1))), (9, .raw (.int .i64 ((j : Int) - 1)))], [(33, ⟨rInt .i64, List.replicate j 0 ++ suf⟩)]⟩) (fun (j, t, suf) => j + suf.length = n ∧ (∃ rs, chain (structF e).1 t rs ∧ (j : Int) ≤ rs.length) ∧ t ≤ e.length ∧ opd (structF e).1 j t ++ suf = opd (structF e).1 n m) (fun (j, t, suf) => j) (n, (m : Int), []) (by refine ⟨rfl, ?_, by omega, by simp⟩; obtain ⟨rs, q1, q2, q3⟩ := hrs; exact ⟨rs, q1, by rw [← hn]; exact q2⟩) (fun a w hi => (Sub.inv ⟨(by repeat (first | exact SubS_nil | refine SubS_cons rfl (by first | rfl | (simp; done) | assumption) ?_)), (by repeat (first | exact SubH_nil | refine SubH_cons rfl (by simp) ?_))⟩ hi)) ?_
    rintro ⟨j, t, suf⟩ ⟨hjn, ⟨rs, hc, hr⟩, htl, hp⟩
    refine j_seq (j_seq ?_)
    refine j_region ?_
    refine jg_adr _ rfl _ rfl rfl (op_move (.base rfl)) ?_
    refine jg_adr _ rfl _ rfl rfl (op_geq (.base rfl) (.base rfl)) ?_
    refine jg_nil ?_
    refine jn_keep [5, 7, 8, 9, 40] [33] (.cons rfl (.cons rfl (.cons rfl (.cons rfl (.cons rfl .nil))))) (.cons rfl .nil) ?_
    refine jn_seq ?_
    refine j_cond rfl (fun h7 => ?_) (fun h7 => ?_)
    · try simp at h7
      refine j_skip (jn_seq (j_seq (j_block (j_seq ?_))))
      have hj0 : 0 < j := by omega
      obtain ⟨s, r, rfl⟩ : ∃ s r, rs = s :: r := by
        cases rs with
        | nil => simp at hr; omega
        | cons s r => exact ⟨s, r, rfl⟩
      obtain ⟨hc1, hc2, hc3, hc4⟩ := hc
      have hsv : (structF e).1[(t - 1).toNat]'(by omega) = s := by
        rw [List.getElem?_eq_getElem (by omega)] at hc3; exact Option.some.inj hc3
      refine j_region ?_
      refine jg_adr _ rfl _ rfl rfl (op_move (.base rfl)) ?_
      refine jg_adr _ rfl _ rfl rfl (op_move (.base rfl)) ?_
      refine jg_adr _ rfl _ rfl rfl (op_move (.base rfl)) ?_
      refine jg_adr _ rfl _ rfl rfl (op_oindex Tryz.underlying28 ty3 (.base rfl) (.base rfl) (show (j : Int) - 1 = ((j - 1 : Nat) : Int) by omega) (by first | omega | (simp; done) | (simp; omega))) ?_
      refine jg_os _ rfl (op_ostore ty3 (.base rfl) rfl (List.getElem?_eq_getElem (by first | omega | (simp; done) | (simp; omega))) (Lens.id _) (.raw (.base rfl) rfl)) ?_
      refine jg_nil ?_
      refine jn_keep [5, 7, 8, 9] [33] (.cons rfl (.cons rfl (.cons rfl (.cons rfl .nil)))) (.cons rfl .nil) ?_
      refine jn_seq ?_
      refine j_region ?_
      refine jg_adr _ rfl _ rfl rfl (op_move (.base rfl)) ?_
      refine jg_adr _ rfl _ rfl rfl (op_move (.base rfl)) ?_
      refine jg_adr _ rfl _ rfl rfl (op_index Tryz.underlying28 ty3 (.base rfl) (.base rfl) (Int.toNat_of_nonneg (by omega)).symm (List.getElem?_eq_getElem (by first | omega | (simp; done) | (simp; omega) | (simp at hg; omega)))) ?_
      refine jg_adr _ rfl _ rfl rfl (op_load ty3 (.base rfl)) ?_
      refine jg_adr _ rfl _ rfl rfl (op_sub (.base rfl) (.base rfl) (w64 (by omega))) ?_
      refine jg_adr _ rfl _ rfl rfl (op_assign (.base rfl)) ?_
      refine jg_nil ?_
      refine jn_keep [5, 7, 8, 9] [33] (.cons rfl (.cons rfl (.cons rfl (.cons rfl .nil)))) (.cons rfl .nil) ?_
      refine jn_blk (jn_seq ?_)
      refine j_region ?_
      refine jg_adr _ rfl _ rfl rfl (op_move (.base rfl)) ?_
      refine jg_adr _ rfl _ rfl rfl (op_sub (.base rfl) (.base rfl) (w64 (by omega))) ?_
      refine jg_adr _ rfl _ rfl rfl (op_assign (.base rfl)) ?_
      refine jg_nil ?_
      refine jn_keep [5, 7, 8, 9] [33] (.cons rfl (.cons rfl (.cons rfl (.cons rfl .nil)))) (.cons rfl .nil) ?_
      exact jn_loop (fun a w hi => ⟨(j - 1, (structF e).1[(t - 1).toNat]'(by omega), (t - 1) :: suf), (by simp only []; omega), ⟨by simp; omega, ⟨r, by rw [hsv]; exact hc4, by simp at hr; omega⟩, by omega, opd_step hj0 (by rw [List.getElem?_eq_getElem (by omega)]) hp⟩, Sub.inv ⟨(by repeat (first | exact SubS_nil | refine SubS_cons rfl (by first | rfl | assumption | exact congrArg (fun z => SV.raw (.int .i64 z)) (by omega)) ?_)), (by repeat (first | exact SubH_nil | refine SubH_cons rfl (by first | rfl | exact congrArg (HB.mk (rInt .i64)) (set_rep _ (by omega))) ?_))⟩ hi⟩)
    · try simp at h7
      refine j_exit (je_seq (je_loop (je_blk (jn_seq (j_seq ?_)))))
      refine j_region ?_
      refine jg_adr _ rfl _ rfl rfl (op_move (.base rfl)) ?_
      refine jg_adr _ rfl _ rfl rfl (op_assign (.base rfl)) ?_
      refine jg_nil ?_
      refine jn_keep [4] [33] (.cons rfl .nil) (.cons rfl .nil) ?_
      refine jn_seq (j_ret ?_)
      refine jr_seal 33 4 [] rfl rfl (by simp; omega) (fun j s h => by cases h) rfl ?_
      exact jr_fin1 Tryz.results31 (res_tmp rfl) rfl (congrArg (SV.tv (rSlice (rInt .i64))) (by have e0 : j = 0 := (by omega); subst e0; unfold opsF; rw [if_neg (by omega)]; simp only [Int.toNat_natCast, List.getElem?_eq_getElem (show m < e.length by omega), Option.getD_some, hn]; rw [← hp]; simp [opd] at hjn ⊢; rw [← hjn]; simp))

theorem roperands_ok (e : List TNode) (at_ : Int) : Ct Tryz.prog 38 [.tv (rSlice rNode) e, .raw (.int .i64 at_)] (.tv (rSlice (rInt .i64)) (opsF e at_)) := by
  refine ct_intro Tryz.func38 rfl rfl Tryz.ntmps38 rfl rfl ?_
  intro w0 ok0
  refine j_len 0 rfl (fun hl0 => ?_)
  refine j_seq ?_
  refine j_region ?_
  refine jg_adr _ rfl _ rfl rfl (op_assign (.base rfl)) ?_
  refine jg_nil ?_
  refine jn_keep [0, 1] [] (.cons rfl (.cons rfl .nil)) .nil ?_
  refine jn_seq (j_seq ?_)
  refine j_region ?_
  refine jg_adr _ rfl _ rfl rfl (op_move (.base rfl)) ?_
  refine jg_adr _ rfl _ rfl rfl (op_call (rstructure_ok e) (.cons (.base rfl) .nil) rfl rfl) ?_
  refine jg_adr _ rfl _ rfl rfl (op_move (.base rfl)) ?_
  refine jg_adr _ rfl _ rfl rfl (op_ext30 (.base rfl)) ?_
  refine jg_adr _ rfl _ rfl rfl (op_ext31 (.base rfl)) ?_
  refine jg_adr _ rfl _ rfl rfl (op_ext32 (.base rfl)) ?_
  refine jg_adr _ rfl _ rfl rfl (op_assign (.base rfl)) ?_
  refine jg_adr _ rfl _ rfl rfl (op_assign (.base rfl)) ?_
  refine jg_adr _ rfl _ rfl rfl (op_assign (.base rfl)) ?_
  refine jg_nil ?_
  refine jn_keep [0, 1, 5, 7] [] (.cons rfl (.cons rfl (.cons rfl (.cons rfl .nil)))) .nil ?_
  refine jn_seq (j_seq (j_seq ?_))
  refine j_region ?_
  refine jg_adr _ rfl _ rfl rfl (op_move (.base rfl)) ?_
  refine jg_adr _ rfl _ rfl rfl (op_neq (.base rfl) (.base rfl)) ?_
  refine jg_adr _ rfl _ rfl rfl (op_move (.base rfl)) ?_
  refine jg_gd _ _ _ _ _ _ rfl rfl rfl rfl rfl (fun hg => op_move (.base rfl)) ?_
  refine jg_gd _ _ _ _ _ _ rfl rfl rfl rfl rfl (fun hg => op_lss (.gd rfl hg) (.base rfl)) ?_
  refine jg_adr _ rfl _ rfl rfl (op_pick_or (.base rfl) (.base rfl) rfl (by intro h; first | (rw [h]; rfl) | (rw [hg, h]; rfl) | (rw [h, hg]; rfl) | simp_all)) ?_
  refine jg_adr _ rfl _ rfl rfl (op_move (.base rfl)) ?_
  refine jg_gd _ _ _ _ _ _ rfl rfl rfl rfl rfl (fun hg => op_move (.base rfl)) ?_
  refine jg_gd _ _ _ _ _ _ rfl rfl rfl rfl rfl (fun hg => op_move (.base rfl)) ?_
  refine jg_gd _ _ _ _ _ _ rfl rfl rfl rfl rfl (fun hg => op_len Tryz.underlying22 (.gd rfl hg)) ?_
  refine jg_gd _ _ _ _ _ _ rfl rfl rfl rfl rfl (fun hg => op_geq (.gd rfl hg) (.gd rfl hg)) ?_
  refine jg_adr _ rfl _ rfl rfl (op_pick_or (.base rfl) (.base rfl) rfl (by intro h; first | (rw [h]; rfl) | (rw [hg, h]; rfl) | (rw [h, hg]; rfl) | simp_all)) ?_
  refine jg_nil ?_
  refine jn_keep [0, 1, 5, 29] [] (.cons rfl (.cons rfl (.cons rfl (.cons rfl .nil)))) .nil ?_
  refine jn_seq ?_
  refine j_cond rfl (fun h2 => ?_) (fun h2 => ?_)
  · try simp at h2
    refine j_seq ?_
    refine j_region ?_
    refine jg_adr _ rfl _ rfl rfl (op_assign (.base rfl)) ?_
    refine jg_nil ?_
    refine jn_keep [4] [] (.cons rfl .nil) .nil ?_
    refine jn_seq (j_ret (jr_seq ?_))
    exact jr_fin1 Tryz.results38 (res_nil rfl) rfl (by unfold opsF; rw [if_pos (by omega)])
  · try simp at h2
    refine j_skip (jn_seq (j_seq ?_))
    obtain ⟨⟨h2a, h2b⟩, h2c⟩ : ((structF e).2.2 = 0 ∧ 0 ≤ at_) ∧ at_ < e.length := by first | exact h2 | omega
    obtain ⟨m, rfl⟩ : ∃ m : Nat, at_ = m := ⟨at_.toNat, by omega⟩
    obtain ⟨hl48, -, hlen, -, hops⟩ := structF_ok h2a
    obtain ⟨har0, hrs⟩ := hops m (by omega)
    obtain ⟨n, hn⟩ : ∃ n : Nat, arity (e[m]'(by omega)).1 = n := ⟨_, (Int.toNat_of_nonneg har0).symm⟩
    have hn3 : n ≤ 3 := by have := (arity_le (e[m]'(by omega)).1).2; omega
    have ctn : Ct Tryz.prog 60 [.raw (.int .i64 (e[m]'(by omega)).1)] (.raw (.int .i64 (n : Int))) := hn ▸ rarity_ok _
    refine j_region ?_
    refine jg_adr _ rfl _ rfl rfl (op_move (.base rfl)) ?_
    refine jg_adr _ rfl _ rfl rfl (op_move (.base rfl)) ?_
    refine jg_adr _ rfl _ rfl rfl (op_index Tryz.underlying22 ty56 (.base rfl) (.base rfl) rfl (List.getElem?_eq_getElem (by first | omega | (simp; done) | (simp; omega) | (simp at hg; omega)))) ?_
    refine jg_adr _ rfl _ rfl rfl (op_field fld56_0 ln56_0 (.base rfl)) ?_
    refine jg_adr _ rfl _ rfl rfl (op_load ty3 (.base rfl)) ?_
    refine jg_adr _ rfl _ rfl rfl (op_call ctn (.cons (.base rfl) .nil) rfl rfl) ?_
    refine jg_adr _ rfl _ rfl rfl (op_assign (.base rfl)) ?_
    refine jg_nil ?_
    refine jn_keep [1, 5, 8] [] (.cons rfl (.cons rfl (.cons rfl .nil))) .nil ?_
    refine jn_seq (j_seq ?_)
    refine j_region ?_
    refine jg_adr _ rfl _ rfl rfl (op_move (.base rfl)) ?_
    refine jg_os _ rfl (op_make Tryz.underlying28 ty3 z3 rfl by3 (.base rfl) (.base rfl) (by omega) (by unfold maxLen; omega) rfl rfl rfl) ?_
    refine jg_adr _ rfl _ rfl rfl (op_assign (.base rfl)) ?_
    refine jg_nil ?_
    refine jn_keep [1, 5, 8, 9] [37] (.cons rfl (.cons rfl (.cons rfl (.cons rfl .nil)))) (.cons rfl .nil) ?_
    refine jn_seq (j_seq ?_)
    refine j_region ?_
    refine jg_adr _ rfl _ rfl rfl (op_move (.base rfl)) ?_
    refine jg_adr _ rfl _ rfl rfl (op_sub (.base rfl) (.base rfl) (w64 (by omega))) ?_
    refine jg_adr _ rfl _ rfl rfl (op_assign (.base rfl)) ?_
    refine jg_nil ?_
    refine jn_keep [5, 8, 9, 10] [37] (.cons rfl (.cons rfl (.cons rfl (.cons rfl .nil)))) (.cons rfl .nil) ?_
    refine jn_seq (j_seq (j_seq ?_))
    refine j_region ?_
    refine jg_adr _ rfl _ rfl rfl (op_move (.base rfl)) ?_
    refine jg_adr _ rfl _ rfl rfl (op_sub (.base rfl) (.base rfl) (w64 (by omega))) ?_
    refine jg_adr _ rfl _ rfl rfl (op_assign (.base rfl)) ?_
    refine jg_nil ?_
    refine jn_keep [5, 9, 10, 11] [37] (.cons rfl (.cons rfl (.cons rfl (.cons rfl .nil)))) (.cons rfl .nil) ?_
    refine jn_seq (j_block ?_)
    refine j_loopp (ι := (Nat × Int × List Int)) (fun (j, t, suf) => ⟨[(5, .tv (rSlice (rInt .i64)) (structF e).1), (9, .own 37 1 0 n), (10, .raw (.int .i64 (t - 1))), (11, .raw (.int .i64 ((j : Int) - 1)))], [(37, ⟨rInt .i64, List.replicate j 0 ++ suf⟩)]⟩) (fun (j, t, suf) => j + suf.length = n ∧ (∃ rs, chain (structF e).1 t rs ∧ (j : Int) ≤ rs.length) ∧ t ≤ e.length ∧ opd (structF e).1 j t ++ suf = opd (structF e).1 n m) (fun (j, t, suf) => j) (n, (m : Int), []) (by refine ⟨rfl, ?_, by omega, by simp⟩; obtain ⟨rs, q1, q2, q3⟩ := hrs; exact ⟨rs, q1, by rw [← hn]; exact q2⟩) (fun a w hi => (Sub.inv ⟨(by repeat (first | exact SubS_nil | refine SubS_cons rfl (by first | rfl | (simp; done) | assumption) ?_)), (by repeat (first | exact SubH_nil | refine SubH_cons rfl (by simp) ?_))⟩ hi)) ?_
    rintro ⟨j, t, suf⟩ ⟨hjn, ⟨rs, hc, hr⟩, htl, hp⟩
    refine j_seq (j_seq ?_)
    refine j_region ?_
    refine jg_adr _ rfl _ rfl rfl (op_move (.base rfl)) ?_
    refine jg_adr _ rfl _ rfl rfl (op_geq (.base rfl) (.base rfl)) ?_
    refine jg_nil ?_
    refine jn_keep [5, 9, 10, 11, 43] [37] (.cons rfl (.cons rfl (.cons rfl (.cons rfl (.cons rfl .nil))))) (.cons rfl .nil) ?_
    refine jn_seq ?_
    refine j_cond rfl (fun h8 => ?_) (fun h8 => ?_)
    · try simp at h8
      refine j_skip (jn_seq (j_seq (j_block (j_seq ?_))))
      have hj0 : 0 < j := by omega
      obtain ⟨s, r, rfl⟩ : ∃ s r, rs = s :: r := by
        cases rs with
        | nil => simp at hr; omega
        | cons s r => exact ⟨s, r, rfl⟩
      obtain ⟨hc1, hc2, hc3, hc4⟩ := hc
      have hsv : (structF e).1[(t - 1).toNat]'(by omega) = s := by
        rw [List.getElem?_eq_getElem (by omega)] at hc3; exact Option.some.inj hc3
      refine j_region ?_
      refine jg_adr _ rfl _ rfl rfl (op_move (.base rfl)) ?_
      refine jg_adr _ rfl _ rfl rfl (op_move (.base rfl)) ?_
      refine jg_adr _ rfl _ rfl rfl (op_move (.base rfl)) ?_
      refine jg_adr _ rfl _ rfl rfl (op_oindex Tryz.underlying28 ty3 (.base rfl) (.base rfl) (show (j : Int) - 1 = ((j - 1 : Nat) : Int) by omega) (by first | omega | (simp; done) | (simp; omega))) ?_
      refine jg_os _ rfl (op_ostore ty3 (.base rfl) rfl (List.getElem?_eq_getElem (by first | omega | (simp; done) | (simp; omega))) (Lens.id _) (.raw (.base rfl) rfl)) ?_
      refine jg_nil ?_
      refine jn_keep [5, 9, 10, 11] [37] (.cons rfl (.cons rfl (.cons rfl (.cons rfl .nil)))) (.cons rfl .nil) ?_
      refine jn_seq ?_
      refine j_region ?_
      refine jg_adr _ rfl _ rfl rfl (op_move (.base rfl)) ?_
      refine jg_adr _ rfl _ rfl rfl (op_move (.base rfl)) ?_
      refine jg_adr _ rfl _ rfl rfl (op_index Tryz.underlying28 ty3 (.base rfl) (.base rfl) (Int.toNat_of_nonneg (by omega)).symm (List.getElem?_eq_getElem (by first | omega | (simp; done) | (simp; omega) | (simp at hg; omega)))) ?_
      refine jg_adr _ rfl _ rfl rfl (op_load ty3 (.base rfl)) ?_
      refine jg_adr _ rfl _ rfl rfl (op_sub (.base rfl) (.base rfl) (w64 (by omega))) ?_
      refine jg_adr _ rfl _ rfl rfl (op_assign (.base rfl)) ?_
      refine jg_nil ?_
      refine jn_keep [5, 9, 10, 11] [37] (.cons rfl (.cons rfl (.cons rfl (.cons rfl .nil)))) (.cons rfl .nil) ?_
      refine jn_blk (jn_seq ?_)
      refine j_region ?_
      refine jg_adr _ rfl _ rfl rfl (op_move (.base rfl)) ?_
      refine jg_adr _ rfl _ rfl rfl (op_sub (.base rfl) (.base rfl) (w64 (by omega))) ?_
      refine jg_adr _ rfl _ rfl rfl (op_assign (.base rfl)) ?_
      refine jg_nil ?_
      refine jn_keep [5, 9, 10, 11] [37] (.cons rfl (.cons rfl (.cons rfl (.cons rfl .nil)))) (.cons rfl .nil) ?_
      exact jn_loop (fun a w hi => ⟨(j - 1, (structF e).1[(t - 1).toNat]'(by omega), (t - 1) :: suf), (by simp only []; omega), ⟨by simp; omega, ⟨r, by rw [hsv]; exact hc4, by simp at hr; omega⟩, by omega, opd_step hj0 (by rw [List.getElem?_eq_getElem (by omega)]) hp⟩, Sub.inv ⟨(by repeat (first | exact SubS_nil | refine SubS_cons rfl (by first | rfl | assumption | exact congrArg (fun z => SV.raw (.int .i64 z)) (by omega)) ?_)), (by repeat (first | exact SubH_nil | refine SubH_cons rfl (by first | rfl | exact congrArg (HB.mk (rInt .i64)) (set_rep _ (by omega))) ?_))⟩ hi⟩)
    · try simp at h8
      refine j_exit (je_seq (je_loop (je_blk (jn_seq (j_seq ?_)))))
      refine j_region ?_
      refine jg_adr _ rfl _ rfl rfl (op_move (.base rfl)) ?_
      refine jg_adr _ rfl _ rfl rfl (op_assign (.base rfl)) ?_
      refine jg_nil ?_
      refine jn_keep [4] [37] (.cons rfl .nil) (.cons rfl .nil) ?_
      refine jn_seq (j_ret ?_)
      refine jr_seal 37 4 [] rfl rfl (by simp; omega) (fun j s h => by cases h) rfl ?_
      exact jr_fin1 Tryz.results38 (res_tmp rfl) rfl (congrArg (SV.tv (rSlice (rInt .i64))) (by have e0 : j = 0 := (by omega); subst e0; unfold opsF; rw [if_neg (by omega)]; simp only [Int.toNat_natCast, List.getElem?_eq_getElem (show m < e.length by omega), Option.getD_some, hn]; rw [← hp]; simp [opd] at hjn ⊢; rw [← hjn]; simp))

end Go.Proofs.YtgoggdaohdablaaGreat
