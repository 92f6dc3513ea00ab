import Derived.Test.YtnfdimmbpcgkpaaP05h
namespace Go.Proofs.Ytnfdimmbpcgkpaa
open Go.Eng
set_option maxRecDepth 100000
set_option maxHeartbeats 4000000
set_option linter.unusedVariables false
set_option linter.unusedSimpArgs false


def runK (M : List Rg) (j : Nat) : List Rg := (M.take j).foldl addU []
theorem runK_succ {M : List Rg} {j : Nat} (h : j < M.length) : runK M (j + 1) = addU (runK M j) M[j] := by
  unfold runK; rw [← List.take_append_getElem h, List.foldl_append]; rfl
theorem addU_len (O : List Rg) (r : Rg) : (addU O r).length ≤ O.length + 1 := by
  unfold addU
  split
  · split
    · simp
    · simp
  · simp
theorem runK_len {M : List Rg} : ∀ j, (runK M j).length ≤ j
  | 0 => by simp [runK]
  | j + 1 => by
    rcases Nat.lt_or_ge j M.length with h | h
    · rw [runK_succ h]; have := addU_len (runK M j) M[j]; have := runK_len (M := M) j; omega
    · have e : runK M (j + 1) = runK M j := by unfold runK; rw [List.take_of_length_le (by omega), List.take_of_length_le h]
      rw [e]; have := runK_len (M := M) j; omega
theorem addU_t {O : List Rg} {r : Rg} {i : Nat} {x : Rg} (hi : i + 1 = O.length) (hx : O[i]? = some x) (h2 : r.1 ≤ x.2) : addU O r = O.set i (x.1, if x.2 < r.2 then r.2 else x.2) := by
  rcases List.eq_nil_or_concat O with rfl | ⟨l, p, e⟩
  · simp at hi
  · rw [List.concat_eq_append] at e
    subst e
    obtain rfl : i = l.length := by simpa using hi
    simp at hx
    subst hx
    unfold addU
    simp only [List.getLast?_append, List.getLast?_singleton, Option.some_or, List.dropLast_concat, if_pos h2]
    rw [List.set_append_right _ _ (by simp)]; simp
theorem addU_f {O : List Rg} {r : Rg} (h : ∀ (i : Nat) (x : Rg), i + 1 = O.length → O[i]? = some x → ¬ r.1 ≤ x.2) : addU O r = O ++ [r] := by
  rcases List.eq_nil_or_concat O with rfl | ⟨l, p, e⟩
  · rfl
  · rw [List.concat_eq_append] at e
    subst e
    have h2 := h l.length p (by simp) (by simp)
    unfold addU
    simp only [List.getLast?_append, List.getLast?_singleton, Option.some_or, if_neg h2]
theorem union_run (l : List Rg) : runK (sortR (l.filter hasD)) (l.filter hasD).length = unionR l := by
  obtain ⟨h1, h2, h3⟩ := sortR_ok (l.filter hasD)
  rw [← union_eq h1 h2, runU, runK, List.take_of_length_le (by omega)]

theorem union_ok (l : List Rg) (hlm : l.length ≤ 1000000) : Ct Try.prog 12 [.tv (rSlice rDateRange) l] (.tv (rSlice rDateRange) (unionR l)) := by
  refine ct_intro Try.func12 rfl rfl Try.ntmps12 rfl rfl ?_
  intro w0 ok0
  refine j_len 0 rfl (fun hl0 => ?_)
  refine j_seq ?_
  refine j_region ?_
  refine jg_adr _ rfl _ rfl rfl (op_assign (.base rfl)) ?_
  refine jg_nil ?_
  refine jn_keep [0] [] (.cons rfl .nil) .nil ?_
  refine jn_seq (j_seq ?_)
  refine j_region ?_
  refine jg_adr _ rfl _ rfl rfl (op_assign (.base rfl)) ?_
  refine jg_nil ?_
  refine jn_keep [0, 3] [] (.cons rfl (.cons rfl .nil)) .nil ?_
  refine jn_seq (j_seq (j_seq ?_))
  refine j_region ?_
  refine jg_adr _ rfl _ rfl rfl (op_move (.base rfl)) ?_
  refine jg_adr _ rfl _ rfl rfl (op_len Try.underlying22 (.base rfl)) ?_
  refine jg_adr _ rfl _ rfl rfl (op_move (.base rfl)) ?_
  refine jg_nil ?_
  refine jn_keep [3, 10, 11, 12] [] (.cons rfl (.cons rfl (.cons rfl (.cons rfl .nil)))) .nil ?_
  refine jn_seq (j_block ?_)
  refine j_vac 70 3 rDateRange rfl rfl rfl ?_
  refine j_loopp (ι := Nat) (fun k => ⟨[(3, .own 70 rDateRange.n 0 ((l.take k).filter hasD).length), (10, .tv (rSlice rDateRange) l), (11, .raw (.int .i64 (l.length))), (12, .raw (.int .i64 ((k : Nat))))], [(70, ⟨rDateRange, ((l.take k).filter hasD)⟩)]⟩) (fun k => k ≤ l.length) (fun k => l.length - k) 0 (Nat.zero_le _) (fun a w hi => (Sub.inv ⟨(by repeat (first | exact SubS_nil | refine SubS_cons rfl (by first | rfl | (simp; done) | assumption) ?_)), (by repeat (first | exact SubH_nil | refine SubH_cons rfl (by first | rfl | (simp; done) | assumption) ?_))⟩ hi)) ?_
  rintro k hk
  have hfl := flt_len (p := hasD) (l := l) (k := k)
  refine j_seq ?_
  refine j_region ?_
  refine jg_adr _ rfl _ rfl rfl (op_lss (.base rfl) (.base rfl)) ?_
  refine jg_nil ?_
  refine jn_keep [3, 10, 11, 12, 13] [70] (.cons rfl (.cons rfl (.cons rfl (.cons rfl (.cons rfl .nil))))) (.cons rfl .nil) ?_
  refine jn_seq (j_seq ?_)
  refine j_cond rfl (fun h3 => ?_) (fun h3 => ?_)
  · try simp at h3
    refine j_skip (jn_seq (j_seq (j_block (j_seq ?_))))
    refine j_region ?_
    refine jg_adr _ rfl _ rfl rfl (op_index Try.underlying22 ty24 (.base rfl) (.base rfl) rfl (List.getElem?_eq_getElem (by first | omega | (simp; done) | (simp; omega) | (simp at hg; omega)))) ?_
    refine jg_adr _ rfl _ rfl rfl (op_load ty24 (.base rfl)) ?_
    refine jg_os _ rfl (op_alloc _ z24 rfl rfl rfl) ?_
    refine jg_os _ rfl (op_ostore ty24 (.base rfl) rfl rfl (Lens.id _) (.tv (.base rfl))) ?_
    refine jg_nil ?_
    refine jn_keep [3, 5, 10, 11, 12] [5, 70] (.cons rfl (.cons rfl (.cons rfl (.cons rfl (.cons rfl .nil))))) (.cons rfl (.cons rfl .nil)) ?_
    refine jn_seq (j_seq ?_)
    refine j_region ?_
    refine jg_adr _ rfl _ rfl rfl (op_oload ty24 (.base rfl) rfl rfl (Lens.id _)) ?_
    refine jg_adr _ rfl _ rfl rfl (op_call (hasDate_ok _) (.cons (.base rfl) .nil) rfl rfl) ?_
    refine jg_nil ?_
    refine jn_keep [3, 5, 10, 11, 12, 17] [5, 70] (.cons rfl (.cons rfl (.cons rfl (.cons rfl (.cons rfl (.cons rfl .nil)))))) (.cons rfl (.cons rfl .nil)) ?_
    refine jn_seq ?_
    refine j_cond rfl (fun h5 => ?_) (fun h5 => ?_)
    · have hc := flt_t (p := hasD) (l := l) (k := k) (by omega) h5
      refine j_region ?_
      refine jg_adr _ rfl _ rfl rfl (op_move (.base rfl)) ?_
      refine jg_adr _ rfl _ rfl rfl (op_oload ty24 (.base rfl) rfl rfl (Lens.id _)) ?_
      refine jg_adr _ rfl _ rfl rfl (op_bslice (rt := rDateRange) Try.underlying22 ty24 z24 rfl (.cons (.tv (.base rfl)) .nil) rfl rfl) ?_
      refine jg_os _ rfl (op_append [10, 11, 12] Try.underlying22 ty24 z24 rfl by24 (.base rfl) rfl (by (try simp); try omega) (.tv (.base rfl)) (by unfold maxLen; (try simp); try omega) (by (try simp); try omega) rfl (.cons rfl (.cons rfl (.cons rfl .nil))) rfl) ?_
      refine jg_adr _ rfl _ rfl rfl (op_assign (.base rfl)) ?_
      refine jg_nil ?_
      refine jn_keep [3, 10, 11, 12] [70] (.cons rfl (.cons rfl (.cons rfl (.cons rfl .nil)))) (.cons rfl .nil) ?_
      refine jn_blk (jn_seq ?_)
      refine j_region ?_
      refine jg_adr _ rfl _ rfl rfl (op_add (.base rfl) (.base rfl) (w64 (by omega))) ?_
      refine jg_adr _ rfl _ rfl rfl (op_move (.base rfl)) ?_
      refine jg_nil ?_
      refine jn_keep [3, 10, 11, 12] [70] (.cons rfl (.cons rfl (.cons rfl (.cons rfl .nil)))) (.cons rfl .nil) ?_
      exact jn_loop (fun a w hi => ⟨k + 1, (by omega), (by omega), Sub.inv ⟨(by repeat (first | exact SubS_nil | refine SubS_cons rfl (by first | rfl | exact congrArg (SV.own 70 rDateRange.n 0) (by rw [hc]; try simp; try omega)) ?_)), (by repeat (first | exact SubH_nil | refine SubH_cons rfl (by first | rfl | (refine congrArg (HB.mk rDateRange) ?_; rw [hc]; try (simp only [List.drop_zero, List.take_of_length_le (Nat.le_refl _)]); first | done | rfl | (simp; done))) ?_))⟩ hi⟩)
    · have hc := flt_f (p := hasD) (l := l) (k := k) (by omega) h5
      refine j_skip (jn_blk (jn_seq ?_))
      refine j_region ?_
      refine jg_adr _ rfl _ rfl rfl (op_add (.base rfl) (.base rfl) (w64 (by omega))) ?_
      refine jg_adr _ rfl _ rfl rfl (op_move (.base rfl)) ?_
      refine jg_nil ?_
      refine jn_keep [3, 10, 11, 12] [70] (.cons rfl (.cons rfl (.cons rfl (.cons rfl .nil)))) (.cons rfl .nil) ?_
      exact jn_loop (fun a w hi => ⟨k + 1, (by omega), (by omega), Sub.inv ⟨(by repeat (first | exact SubS_nil | refine SubS_cons rfl (by first | rfl | exact congrArg (SV.own 70 rDateRange.n 0) (by rw [hc]; try simp; try omega)) ?_)), (by repeat (first | exact SubH_nil | refine SubH_cons rfl (by first | rfl | (refine congrArg (HB.mk rDateRange) ?_; rw [hc]; try (simp only [List.drop_zero, List.take_of_length_le (Nat.le_refl _)]); first | done | rfl | (simp; done))) ?_))⟩ hi⟩)
  · try simp at h3
    refine j_exit (je_seq (je_loop (je_blk (jn_seq (j_seq ?_)))))
    have hkk : k = l.length := by omega
    subst hkk
    rw [List.take_of_length_le (Nat.le_refl l.length)]
    rw [List.take_of_length_le (Nat.le_refl l.length)] at hfl
    have hM : (sortR (l.filter hasD)).length = (l.filter hasD).length := (sortR_ok _).2.2
    refine j_region ?_
    refine jg_adr _ rfl _ rfl rfl (op_move (.base rfl)) ?_
    refine jg_os _ rfl (op_turnK turnR (.base rfl) (.base rfl) rfl (by rfl) (by omega) rfl) ?_
    refine jg_nil ?_
    refine jn_keep [3] [70] (.cons rfl .nil) (.cons rfl .nil) ?_
    refine jn_seq (j_seq ?_)
    refine j_region ?_
    refine jg_adr _ rfl _ rfl rfl (op_assign (.base rfl)) ?_
    refine jg_nil ?_
    refine jn_keep [3, 6] [70] (.cons rfl (.cons rfl .nil)) (.cons rfl .nil) ?_
    refine jn_seq (j_seq (j_seq ?_))
    refine j_region ?_
    refine jg_adr _ rfl _ rfl rfl (op_move (.base rfl)) ?_
    refine jg_adr _ rfl _ rfl rfl (op_len_own Try.underlying22 (.base rfl)) ?_
    refine jg_adr _ rfl _ rfl rfl (op_move (.base rfl)) ?_
    refine jg_nil ?_
    refine jn_keep [6, 25, 26, 27] [70] (.cons rfl (.cons rfl (.cons rfl (.cons rfl .nil)))) (.cons rfl .nil) ?_
    refine jn_seq (j_block ?_)
    refine j_vac 71 6 rDateRange rfl rfl rfl ?_
    refine j_loopp (ι := Nat) (fun j => ⟨[(6, .own 71 rDateRange.n 0 (runK (sortR (l.filter hasD)) j).length), (25, .own 70 rDateRange.n 0 (l.filter hasD).length), (26, .raw (.int .i64 ((l.filter hasD).length))), (27, .raw (.int .i64 ((j : Nat))))], [(70, ⟨rDateRange, (sortR (l.filter hasD))⟩), (71, ⟨rDateRange, (runK (sortR (l.filter hasD)) j)⟩)]⟩) (fun j => j ≤ (l.filter hasD).length) (fun j => (l.filter hasD).length - j) 0 (Nat.zero_le _) (fun a w hi => (Sub.inv ⟨(by repeat (first | exact SubS_nil | refine SubS_cons rfl (by first | rfl | (simp; done) | assumption) ?_)), (by repeat (first | exact SubH_nil | refine SubH_cons rfl (by first | rfl | (simp; done) | assumption) ?_))⟩ hi)) ?_
    rintro j hj
    have hrl := runK_len (M := (sortR (l.filter hasD))) j
    refine j_seq ?_
    refine j_region ?_
    refine jg_adr _ rfl _ rfl rfl (op_lss (.base rfl) (.base rfl)) ?_
    refine jg_nil ?_
    refine jn_keep [6, 25, 26, 27, 28] [70, 71] (.cons rfl (.cons rfl (.cons rfl (.cons rfl (.cons rfl .nil))))) (.cons rfl (.cons rfl .nil)) ?_
    refine jn_seq (j_seq ?_)
    refine j_cond rfl (fun h11 => ?_) (fun h11 => ?_)
    · try simp at h11
      refine j_skip (jn_seq (j_seq (j_block (j_seq ?_))))
      have hj' : j < (l.filter hasD).length := by omega
      have hjM : j < (sortR (l.filter hasD)).length := by omega
      have hr : runK (sortR (l.filter hasD)) (j + 1) = addU (runK (sortR (l.filter hasD)) j) ((sortR (l.filter hasD))[0 + j]'(by omega)) := by simp only [Nat.zero_add]; exact runK_succ hjM
      refine j_region ?_
      refine jg_adr _ rfl _ rfl rfl (op_oindex Try.underlying22 ty24 (.base rfl) (.base rfl) rfl (by omega)) ?_
      refine jg_adr _ rfl _ rfl rfl (op_oload ty24 (.base rfl) rfl (List.getElem?_eq_getElem (by first | omega | (simp; omega))) (Lens.id _)) ?_
      refine jg_os _ rfl (op_alloc _ z24 rfl rfl rfl) ?_
      refine jg_os _ rfl (op_ostore ty24 (.base rfl) rfl rfl (Lens.id _) (.tv (.base rfl))) ?_
      refine jg_nil ?_
      refine jn_keep [6, 8, 25, 26, 27] [8, 70, 71] (.cons rfl (.cons rfl (.cons rfl (.cons rfl (.cons rfl .nil))))) (.cons rfl (.cons rfl (.cons rfl .nil))) ?_
      refine jn_seq (j_seq ?_)
      refine j_region ?_
      refine jg_adr _ rfl _ rfl rfl (op_move (.base rfl)) ?_
      refine jg_adr _ rfl _ rfl rfl (op_len_own Try.underlying22 (.base rfl)) ?_
      refine jg_adr _ rfl _ rfl rfl (op_sub (.base rfl) (.base rfl) (w64 (by omega))) ?_
      refine jg_adr _ rfl _ rfl rfl (op_assign (.base rfl)) ?_
      refine jg_nil ?_
      refine jn_keep [6, 8, 9, 25, 26, 27] [8, 70, 71] (.cons rfl (.cons rfl (.cons rfl (.cons rfl (.cons rfl (.cons rfl .nil)))))) (.cons rfl (.cons rfl (.cons rfl .nil))) ?_
      refine jn_seq (j_seq ?_)
      refine j_draw mo (by kernel_rfl) (
        AS.cons _ _ rfl (ga_adr rfl rfl rfl (op_move (.base rfl))) (
          AS.cons _ _ rfl (ga_adr rfl rfl rfl (op_geq (.base rfl) (.base rfl))) (
          AS.cons _ _ rfl (ga_adr rfl rfl rfl (op_move (.base rfl))) (
          AS.cons _ _ rfl (ga_gd _ _ _ _ rfl rfl rfl rfl rfl (fun hg => op_ofield fld24_0 (.base rfl))) (
          AS.cons _ _ rfl (ga_gd _ _ _ _ rfl rfl rfl rfl rfl (fun hg => op_oload ty3 (.gd rfl hg) rfl rfl ln24_0)) (
          AS.cons _ _ rfl (ga_gd _ _ _ _ rfl rfl rfl rfl rfl (fun hg => op_move (.base rfl))) (
          AS.cons _ _ rfl (ga_gd _ _ _ _ rfl rfl rfl rfl rfl (fun hg => op_move (.base rfl))) (
          AS.cons _ _ rfl (ga_gd _ _ _ _ rfl rfl rfl rfl rfl (fun hg => op_oindex Try.underlying22 ty24 (.gd rfl hg) (.gd rfl hg) (show (((runK (sortR (l.filter hasD)) j).length : Int) - 1 = (((runK (sortR (l.filter hasD)) j).length - 1 : Nat) : Int)) by simp at hg; omega) (by simp at hg; omega))) (
          AS.cons _ _ rfl (ga_gd _ _ _ _ rfl rfl rfl rfl rfl (fun hg => op_ofield fld24_1 (.gd rfl hg))) (
          AS.cons _ _ rfl (ga_gd _ _ _ _ rfl rfl rfl rfl rfl (fun hg => op_oload ty3 (.gd rfl hg) rfl (getD_some (z := ((0, 0) : Rg)) (by simp at hg; omega)) ln24_1)) (
          AS.cons _ _ rfl (ga_gd _ _ _ _ rfl rfl rfl rfl rfl (fun hg => op_leq (.gd rfl hg) (.gd rfl hg))) (
          AS.cons _ _ rfl (ga_adr rfl rfl rfl (op_pick_and (.base rfl) (.base rfl) rfl (by intro h; first | (rw [h]; rfl) | (rw [hg, h]; rfl) | (rw [h, hg]; rfl) | simp_all))) (
          AS.nil))))))))))))) ?_
      refine jn_keep [6, 8, 9, 25, 26, 27, 45] [8, 70, 71] (.cons rfl (.cons rfl (.cons rfl (.cons rfl (.cons rfl (.cons rfl (.cons rfl .nil))))))) (.cons rfl (.cons rfl (.cons rfl .nil))) ?_
      refine jn_seq ?_
      refine j_cond rfl (fun h14 => ?_) (fun h14 => ?_)
      · have ho0 : 0 < (runK (sortR (l.filter hasD)) j).length := by simp at h14; omega
        have ho : (((runK (sortR (l.filter hasD)) j).length : Int) - 1 = (((runK (sortR (l.filter hasD)) j).length - 1 : Nat) : Int)) := by omega
        obtain ⟨x, hx'⟩ : ∃ x, (runK (sortR (l.filter hasD)) j)[(runK (sortR (l.filter hasD)) j).length - 1]? = some x := ⟨_, List.getElem?_eq_getElem (by omega)⟩
        have hx : (runK (sortR (l.filter hasD)) j)[0 + ((runK (sortR (l.filter hasD)) j).length - 1)]? = some x := by rw [Nat.zero_add]; exact hx'
        have h14' : ((sortR (l.filter hasD))[0 + j]'(by omega)).1 ≤ x.2 := by simp [hx'] at h14; simp only [Nat.zero_add]; exact h14.2
        have hs := hr
        rw [addU_t (by omega) hx h14'] at hs
        refine j_drawE mo (by kernel_rfl) (
          AE.cons _ _ _ rfl (gh_ga [71] (ga_adr rfl rfl rfl (op_move (.base rfl))) (by kernel_rfl)) (
          AE.cons _ _ _ rfl (gh_ga [] (ga_adr rfl rfl rfl (op_move (.base rfl))) (by kernel_rfl)) (
          AE.cons _ _ _ rfl (gh_ga [71] (ga_adr rfl rfl rfl (op_move (.base rfl))) (by kernel_rfl)) (
          AE.cons _ _ _ rfl (gh_ga [] (ga_adr rfl rfl rfl (op_move (.base rfl))) (by kernel_rfl)) (
          AE.cons _ _ _ rfl (gh_oindex rfl Try.underlying22 ty24 (.base rfl) (.base rfl) ho (by omega)) (
          AE.cons _ _ _ rfl (gh_ga [71] (ga_adr rfl rfl rfl (op_ofield fld24_1 (.base rfl))) (by kernel_rfl)) (
          AE.cons _ _ _ rfl (gh_ga [71] (ga_adr rfl rfl rfl (op_oload ty3 (.base rfl) rfl hx ln24_1)) (by kernel_rfl)) (
          AE.cons _ _ _ rfl (gh_ga [8] (ga_adr rfl rfl rfl (op_ofield fld24_1 (.base rfl))) (by kernel_rfl)) (
          AE.cons _ _ _ rfl (gh_ga [8] (ga_adr rfl rfl rfl (op_oload ty3 (.base rfl) rfl rfl ln24_1)) (by kernel_rfl)) (
          AE.cons _ _ _ rfl (gh_ga [] (ga_adr rfl rfl rfl (op_max (.base rfl) (.base rfl))) (by kernel_rfl)) (
          AE.cons _ _ _ rfl (gh_oindex rfl Try.underlying22 ty24 (.base rfl) (.base rfl) ho (by omega)) (
          AE.cons _ _ _ rfl (gh_ga [71] (ga_adr rfl rfl rfl (op_ofield fld24_1 (.base rfl))) (by kernel_rfl)) (
          AE.cons _ _ _ rfl (gh_store ty3 (.base rfl) rfl hx ln24_1 (.raw (.base rfl) rfl)) (
          AE.nil)))))))))))))) (by kernel_rfl) ?_
        refine jn_keep [6, 25, 26, 27] [70, 71] (.cons rfl (.cons rfl (.cons rfl (.cons rfl .nil)))) (.cons rfl (.cons rfl .nil)) ?_
        refine jn_blk (jn_seq ?_)
        refine j_region ?_
        refine jg_adr _ rfl _ rfl rfl (op_add (.base rfl) (.base rfl) (w64 (by omega))) ?_
        refine jg_adr _ rfl _ rfl rfl (op_move (.base rfl)) ?_
        refine jg_nil ?_
        refine jn_keep [6, 25, 26, 27] [70, 71] (.cons rfl (.cons rfl (.cons rfl (.cons rfl .nil)))) (.cons rfl (.cons rfl .nil)) ?_
        exact jn_loop (fun a w hi => ⟨j + 1, (by omega), (by omega), Sub.inv ⟨(by repeat (first | exact SubS_nil | refine SubS_cons rfl (by first | rfl | exact congrArg (SV.own 71 rDateRange.n 0) (by rw [hs]; try simp; try omega)) ?_)), (by repeat (first | exact SubH_nil | refine SubH_cons rfl (by first | rfl | (refine congrArg (HB.mk rDateRange) ?_; rw [hs]; try (simp only [List.drop_zero, List.take_of_length_le (Nat.le_refl _)]); first | done | rfl | (simp; done))) ?_))⟩ hi⟩)
      · have hs := hr
        rw [addU_f (fun i x hi1 hx' => by obtain rfl : i = (runK (sortR (l.filter hasD)) j).length - 1 := (by omega); simp [hx'] at h14; have := h14 (by omega); simp only [Nat.zero_add]; omega)] at hs
        refine j_region ?_
        refine jg_adr _ rfl _ rfl rfl (op_move (.base rfl)) ?_
        refine jg_adr _ rfl _ rfl rfl (op_oload ty24 (.base rfl) rfl rfl (Lens.id _)) ?_
        refine jg_adr _ rfl _ rfl rfl (op_bslice (rt := rDateRange) Try.underlying22 ty24 z24 rfl (.cons (.tv (.base rfl)) .nil) rfl rfl) ?_
        refine jg_os _ rfl (op_append [25, 26, 27] Try.underlying22 ty24 z24 rfl by24 (.base rfl) rfl (by (try simp); try omega) (.tv (.base rfl)) (by unfold maxLen; (try simp); try omega) (by (try simp); try omega) rfl (.cons rfl (.cons rfl (.cons rfl .nil))) rfl) ?_
        refine jg_adr _ rfl _ rfl rfl (op_assign (.base rfl)) ?_
        refine jg_nil ?_
        refine jn_keep [6, 25, 26, 27] [70, 71] (.cons rfl (.cons rfl (.cons rfl (.cons rfl .nil)))) (.cons rfl (.cons rfl .nil)) ?_
        refine jn_blk (jn_seq ?_)
        refine j_region ?_
        refine jg_adr _ rfl _ rfl rfl (op_add (.base rfl) (.base rfl) (w64 (by omega))) ?_
        refine jg_adr _ rfl _ rfl rfl (op_move (.base rfl)) ?_
        refine jg_nil ?_
        refine jn_keep [6, 25, 26, 27] [70, 71] (.cons rfl (.cons rfl (.cons rfl (.cons rfl .nil)))) (.cons rfl (.cons rfl .nil)) ?_
        exact jn_loop (fun a w hi => ⟨j + 1, (by omega), (by omega), Sub.inv ⟨(by repeat (first | exact SubS_nil | refine SubS_cons rfl (by first | rfl | exact congrArg (SV.own 71 rDateRange.n 0) (by rw [hs]; try simp; try omega)) ?_)), (by repeat (first | exact SubH_nil | refine SubH_cons rfl (by first | rfl | (refine congrArg (HB.mk rDateRange) ?_; rw [hs]; try (simp only [List.drop_zero, List.take_of_length_le (Nat.le_refl _)]); first | done | rfl | (simp; done))) ?_))⟩ hi⟩)
    · try simp at h11
      refine j_exit (je_seq (je_loop (je_blk (jn_seq (j_seq ?_)))))
      have hjj : j = (l.filter hasD).length := by omega
      subst hjj
      refine j_region ?_
      refine jg_adr _ rfl _ rfl rfl (op_move (.base rfl)) ?_
      refine jg_adr _ rfl _ rfl rfl (op_assign (.base rfl)) ?_
      refine jg_nil ?_
      refine jn_keep [2] [71] (.cons rfl .nil) (.cons rfl .nil) ?_
      refine jn_seq (j_ret ?_)
      refine jr_seal (rt := rDateRange) 71 2 (dropH 71 _) rfl rfl (by simp) (dropH_sub 71 _) (dropH_no 71 _) ?_
      exact jr_fin1 Try.results12 (res_tmp rfl) rfl (congrArg (SV.tv (rSlice rDateRange)) (by rw [List.drop_zero, List.take_of_length_le (Nat.le_refl _)]; exact union_run l))

end Go.Proofs.Ytnfdimmbpcgkpaa
