import Derived.Test.YtcdkmhmlpjnfeaaP12q
namespace Go.Proofs.Ytcdkmhmlpjnfeaa
open Go.Eng
set_option maxRecDepth 100000
set_option maxHeartbeats 4000000
set_option linter.unusedVariables false
set_option linter.unusedSimpArgs false


theorem covL_t {date lo hi : Int} {l : List TRow} {k : Nat} (h : k < l.length) (h2 : onK date lo hi l[k] = true) : covL date lo hi (l.take (k + 1)) = covL date lo hi (l.take k) ++ [partK lo hi l[k]] := by
  unfold covL; rw [← List.take_append_getElem h, List.filter_append, List.map_append]; simp [h2]
theorem covL_f {date lo hi : Int} {l : List TRow} {k : Nat} (h : k < l.length) (h2 : onK date lo hi l[k] = false) : covL date lo hi (l.take (k + 1)) = covL date lo hi (l.take k) := by
  unfold covL; rw [← List.take_append_getElem h, List.filter_append, List.map_append]; simp [h2]
theorem covL_len {date lo hi : Int} {l : List TRow} : (covL date lo hi l).length ≤ l.length := by unfold covL; rw [List.length_map]; exact List.length_filter_le _ _
def gS (M : List Rg) (lo : Int) (j : Nat) : List Rg × Int := (M.take j).foldl gStepK ([], lo)
theorem gS_succ {M : List Rg} {lo : Int} {j : Nat} (h : j < M.length) : gS M lo (j + 1) = gStepK (gS M lo j) M[j] := by
  unfold gS; rw [← List.take_append_getElem h, List.foldl_append]; rfl
theorem gS_len {M : List Rg} {lo : Int} : ∀ j, (gS M lo j).1.length ≤ j
  | 0 => by simp [gS]
  | j + 1 => by
    have ih := gS_len (M := M) (lo := lo) j
    rcases Nat.lt_or_ge j M.length with h | h
    · rw [gS_succ h]; unfold gStepK; simp only; split
      · simp; omega
      · omega
    · have e : gS M lo (j + 1) = gS M lo j := by unfold gS; rw [List.take_of_length_le (by omega), List.take_of_length_le h]
      rw [e]; omega
theorem gS_end (M : List Rg) (lo hi : Int) : ((gS M lo M.length).1 ++ if (gS M lo M.length).2 < hi then [((gS M lo M.length).2, hi)] else []) = gapK M lo hi := by
  unfold gS; rw [List.take_of_length_le (Nat.le_refl _), gapK_end hi M lo [], List.nil_append]
theorem unc_eq {date lo hi : Int} {l : List TRow} (h : lo < hi) : gapK (sortK (covL date lo hi l)) lo hi = uncR date lo hi l := (unc_ok h (sortK_ok _).1 (sortK_ok _).2.1).1
theorem unc_prop {date lo hi : Int} {l : List TRow} : ∀ g ∈ uncR date lo hi l, lo ≤ g.1 ∧ g.1 < g.2 ∧ g.2 ≤ hi ∧ ¬ Mat date l g.1 := by
  by_cases h : lo < hi
  · rw [← unc_eq h]; exact (unc_ok h (sortK_ok _).1 (sortK_ok _).2.1).2
  · unfold uncR; rw [if_pos (by omega)]; simp

theorem uncov_ok (t : TTable) (date lo hi : Int) (hl : t.2.2.2.length ≤ 100) : Ct Try.prog 17 [.tv rTable t, .raw (.int .i64 date), .raw (.int .i64 lo), .raw (.int .i64 hi)] (.tv (rSlice rKeyRange) (uncR date lo hi t.2.2.2)) := by
  refine ct_intro Try.func17 rfl rfl Try.ntmps17 rfl rfl ?_
  intro w0 ok0
  refine j_seq ?_
  refine j_region ?_
  refine jg_os _ rfl (op_box (.tv (.base rfl)) rfl rfl rfl) ?_
  refine jg_adr _ rfl _ rfl rfl (op_assign (.base rfl)) ?_
  refine jg_nil ?_
  refine jn_keep [1, 2, 3, 4] [4] (.cons rfl (.cons rfl (.cons rfl (.cons rfl .nil)))) (.cons rfl .nil) ?_
  refine jn_seq (j_seq (j_seq ?_))
  refine j_region ?_
  refine jg_adr _ rfl _ rfl rfl (op_move (.base rfl)) ?_
  refine jg_adr _ rfl _ rfl rfl (op_move (.base rfl)) ?_
  refine jg_adr _ rfl _ rfl rfl (op_geq (.base rfl) (.base rfl)) ?_
  refine jg_nil ?_
  refine jn_keep [1, 2, 3, 4, 19] [4] (.cons rfl (.cons rfl (.cons rfl (.cons rfl (.cons rfl .nil))))) (.cons rfl .nil) ?_
  refine jn_seq ?_
  refine j_cond rfl (fun h1 => ?_) (fun h1 => ?_)
  · have h1 := of_decide_eq_true h1
    refine j_seq ?_
    refine j_region ?_
    refine jg_adr _ rfl _ rfl rfl (op_assign (.base rfl)) ?_
    refine jg_nil ?_
    refine jn_keep [8] [] (.cons rfl .nil) .nil ?_
    refine jn_seq (j_ret (jr_seq ?_))
    exact jr_fin1 Try.results17 (res_nil rfl) rfl (congrArg (SV.tv (rSlice rKeyRange)) (by unfold uncR; rw [if_pos h1]))
  · have h1 := of_decide_eq_false h1
    refine j_skip (jn_seq (j_seq ?_))
    refine j_region ?_
    refine jg_adr _ rfl _ rfl rfl (op_assign (.base rfl)) ?_
    refine jg_nil ?_
    refine jn_keep [1, 2, 3, 4, 9] [4] (.cons rfl (.cons rfl (.cons rfl (.cons rfl (.cons rfl .nil))))) (.cons rfl .nil) ?_
    refine jn_seq (j_seq (j_seq ?_))
    refine j_region ?_
    refine jg_adr _ rfl _ rfl rfl (op_ofield fld26_3 (.base rfl)) ?_
    refine jg_adr _ rfl _ rfl rfl (op_oload ty24 (.base rfl) rfl rfl ln26_3) ?_
    refine jg_adr _ rfl _ rfl rfl (op_len Try.underlying24 (.base rfl)) ?_
    refine jg_adr _ rfl _ rfl rfl (op_move (.base rfl)) ?_
    refine jg_nil ?_
    refine jn_keep [1, 2, 3, 9, 21, 22, 23] [] (.cons rfl (.cons rfl (.cons rfl (.cons rfl (.cons rfl (.cons rfl (.cons rfl .nil))))))) .nil ?_
    refine jn_seq (j_block ?_)
    refine j_vac 70 9 rKeyRange rfl rfl rfl ?_
    refine j_loopp (ι := Nat) (fun k => ⟨[(1, .raw (.int .i64 (date))), (2, .raw (.int .i64 (lo))), (3, .raw (.int .i64 (hi))), (9, .own 70 rKeyRange.n 0 (covL date lo hi (t.2.2.2.take k)).length), (21, .tv (rSlice rRow) t.2.2.2), (22, .raw (.int .i64 (t.2.2.2.length))), (23, .raw (.int .i64 ((k : Nat))))], [(70, ⟨rKeyRange, (covL date lo hi (t.2.2.2.take k))⟩)]⟩) (fun k => k ≤ t.2.2.2.length) (fun k => t.2.2.2.length - k) 0 (Nat.zero_le _) (fun a w hi => (Sub.inv ⟨(by repeat (first | exact SubS_nil | refine SubS_cons rfl (by first | rfl | (simp; done) | assumption) ?_)), (by repeat (first | exact SubH_nil | refine SubH_cons rfl (by first | rfl | (simp; done) | assumption) ?_))⟩ hi)) ?_
    rintro k hk
    have hcl := covL_len (date := date) (lo := lo) (hi := hi) (l := t.2.2.2.take k)
    have htl : (t.2.2.2.take k).length ≤ t.2.2.2.length := by simp; omega
    refine j_seq ?_
    refine j_region ?_
    refine jg_adr _ rfl _ rfl rfl (op_lss (.base rfl) (.base rfl)) ?_
    refine jg_nil ?_
    refine jn_keep [1, 2, 3, 9, 21, 22, 23, 24] [70] (.cons rfl (.cons rfl (.cons rfl (.cons rfl (.cons rfl (.cons rfl (.cons rfl (.cons rfl .nil)))))))) (.cons rfl .nil) ?_
    refine jn_seq (j_seq ?_)
    refine j_cond rfl (fun h5 => ?_) (fun h5 => ?_)
    · simp at h5
      refine j_skip (jn_seq (j_seq (j_block (j_seq ?_))))
      refine j_region ?_
      refine jg_adr _ rfl _ rfl rfl (op_index Try.underlying24 ty50 (.base rfl) (.base rfl) rfl (List.getElem?_eq_getElem (by first | omega | (simp; done) | (simp; omega) | (simp at hg; omega)))) ?_
      refine jg_adr _ rfl _ rfl rfl (op_load ty50 (.base rfl)) ?_
      refine jg_os _ rfl (op_alloc _ z50 rfl rfl rfl) ?_
      refine jg_os _ rfl (op_ostore ty50 (.base rfl) rfl rfl (Lens.id _) (.tv (.base rfl))) ?_
      refine jg_nil ?_
      refine jn_keep [1, 2, 3, 9, 11, 21, 22, 23] [11, 70] (.cons rfl (.cons rfl (.cons rfl (.cons rfl (.cons rfl (.cons rfl (.cons rfl (.cons rfl .nil)))))))) (.cons rfl (.cons rfl .nil)) ?_
      refine jn_seq (j_seq ?_)
      refine j_region ?_
      refine jg_adr _ rfl _ rfl rfl (op_move (.base rfl)) ?_
      refine jg_adr _ rfl _ rfl rfl (op_ofield fld50_1 (.base rfl)) ?_
      refine jg_adr _ rfl _ rfl rfl (op_oload ty3 (.base rfl) rfl rfl ln50_1) ?_
      refine jg_adr _ rfl _ rfl rfl (op_max (.base rfl) (.base rfl)) ?_
      refine jg_adr _ rfl _ rfl rfl (op_move (.base rfl)) ?_
      refine jg_adr _ rfl _ rfl rfl (op_ofield fld50_2 (.base rfl)) ?_
      refine jg_adr _ rfl _ rfl rfl (op_oload ty3 (.base rfl) rfl rfl ln50_2) ?_
      refine jg_adr _ rfl _ rfl rfl (op_min (.base rfl) (.base rfl)) ?_
      refine jg_adr _ rfl _ rfl rfl (op_build z42 rfl pl42 (.cons (rt' := (rInt .i64)) rfl ln42_0 (.raw (.base rfl) rfl) (.cons (rt' := (rInt .i64)) rfl ln42_1 (.raw (.base rfl) rfl) .nil))) ?_
      refine jg_os _ rfl (op_alloc _ z42 rfl rfl rfl) ?_
      refine jg_os _ rfl (op_ostore ty42 (.base rfl) rfl rfl (Lens.id _) (.tv (.base rfl))) ?_
      refine jg_nil ?_
      refine jn_keep [1, 2, 3, 9, 11, 12, 21, 22, 23] [11, 12, 70] (.cons rfl (.cons rfl (.cons rfl (.cons rfl (.cons rfl (.cons rfl (.cons rfl (.cons rfl (.cons rfl .nil))))))))) (.cons rfl (.cons rfl (.cons rfl .nil))) ?_
      refine jn_seq (j_seq ?_)
      refine j_region ?_
      refine jg_adr _ rfl _ rfl rfl (op_ofield fld50_0 (.base rfl)) ?_
      refine jg_adr _ rfl _ rfl rfl (op_oload ty48 (.base rfl) rfl rfl ln50_0) ?_
      refine jg_adr _ rfl _ rfl rfl (op_move (.base rfl)) ?_
      refine jg_adr _ rfl _ rfl rfl (op_call (dcont_ok _ _) (.cons (.base rfl) (.cons (.base rfl) .nil)) rfl rfl) ?_
      refine jg_adr _ rfl _ rfl rfl (op_move (.base rfl)) ?_
      refine jg_gd _ _ _ _ _ _ rfl rfl rfl rfl rfl (fun hg => op_ofield fld42_0 (.base rfl)) ?_
      refine jg_gd _ _ _ _ _ _ rfl rfl rfl rfl rfl (fun hg => op_oload ty3 (.gd rfl hg) rfl rfl ln42_0) ?_
      refine jg_gd _ _ _ _ _ _ rfl rfl rfl rfl rfl (fun hg => op_ofield fld42_1 (.base rfl)) ?_
      refine jg_gd _ _ _ _ _ _ rfl rfl rfl rfl rfl (fun hg => op_oload ty3 (.gd rfl hg) rfl rfl ln42_1) ?_
      refine jg_gd _ _ _ _ _ _ rfl rfl rfl rfl rfl (fun hg => op_lss (.gd rfl hg) (.gd rfl hg)) ?_
      refine jg_adr _ rfl _ rfl rfl (op_pick_and (.base rfl) (.base rfl) rfl (by intro h; first | (rw [h]; rfl) | (rw [hg, h]; rfl) | (rw [h, hg]; rfl) | simp_all)) ?_
      refine jg_nil ?_
      refine jn_keep [1, 2, 3, 9, 12, 21, 22, 23, 46] [12, 70] (.cons rfl (.cons rfl (.cons rfl (.cons rfl (.cons rfl (.cons rfl (.cons rfl (.cons rfl (.cons rfl .nil))))))))) (.cons rfl (.cons rfl .nil)) ?_
      refine jn_seq ?_
      refine j_cond rfl (fun h8 => ?_) (fun h8 => ?_)
      · have h8 : onK date lo hi (t.2.2.2[k]) = true := h8
        have hs := covL_t (date := date) (lo := lo) (hi := hi) h5 h8
        refine j_region ?_
        refine jg_adr _ rfl _ rfl rfl (op_move (.base rfl)) ?_
        refine jg_adr _ rfl _ rfl rfl (op_oload ty42 (.base rfl) rfl rfl (Lens.id _)) ?_
        refine jg_adr _ rfl _ rfl rfl (op_bslice (rt := rKeyRange) Try.underlying37 ty42 z42 rfl (.cons (.tv (.base rfl)) .nil) rfl rfl) ?_
        refine jg_os _ rfl (op_append [1, 2, 3, 21, 22, 23] Try.underlying37 ty42 z42 rfl by42 (.base rfl) rfl (by (try simp); try omega) (.tv (.base rfl)) (by unfold maxLen; (try simp); try omega) (by (try simp); try omega) rfl (.cons rfl (.cons rfl (.cons rfl (.cons rfl (.cons rfl (.cons rfl .nil)))))) rfl) ?_
        refine jg_adr _ rfl _ rfl rfl (op_assign (.base rfl)) ?_
        refine jg_nil ?_
        refine jn_keep [1, 2, 3, 9, 21, 22, 23] [70] (.cons rfl (.cons rfl (.cons rfl (.cons rfl (.cons rfl (.cons rfl (.cons rfl .nil))))))) (.cons rfl .nil) ?_
        refine jn_blk (jn_seq ?_)
        refine j_region ?_
        refine jg_adr _ rfl _ rfl rfl (op_add (.base rfl) (.base rfl) (w64 (by omega))) ?_
        refine jg_adr _ rfl _ rfl rfl (op_move (.base rfl)) ?_
        refine jg_nil ?_
        refine jn_keep [1, 2, 3, 9, 21, 22, 23] [70] (.cons rfl (.cons rfl (.cons rfl (.cons rfl (.cons rfl (.cons rfl (.cons rfl .nil))))))) (.cons rfl .nil) ?_
        exact jn_loop (fun a w hi => ⟨k + 1, (by omega), (by omega), Sub.inv ⟨(by repeat (first | exact SubS_nil | refine SubS_cons rfl (by first | rfl | exact congrArg (SV.own 70 rKeyRange.n 0) (by rw [hs]; try simp; try omega)) ?_)), (by repeat (first | exact SubH_nil | refine SubH_cons rfl (by first | rfl | (refine congrArg (HB.mk rKeyRange) ?_; rw [hs]; try (simp only [List.drop_zero, List.take_of_length_le (Nat.le_refl _)]); first | done | rfl | (simp; done) | (rw [List.take_of_length_le (by simp)]; simp; done))) ?_))⟩ hi⟩)
      · have h8 : onK date lo hi (t.2.2.2[k]) = false := h8
        have hs := covL_f (date := date) (lo := lo) (hi := hi) h5 h8
        refine j_skip (jn_blk (jn_seq ?_))
        refine j_region ?_
        refine jg_adr _ rfl _ rfl rfl (op_add (.base rfl) (.base rfl) (w64 (by omega))) ?_
        refine jg_adr _ rfl _ rfl rfl (op_move (.base rfl)) ?_
        refine jg_nil ?_
        refine jn_keep [1, 2, 3, 9, 21, 22, 23] [70] (.cons rfl (.cons rfl (.cons rfl (.cons rfl (.cons rfl (.cons rfl (.cons rfl .nil))))))) (.cons rfl .nil) ?_
        exact jn_loop (fun a w hi => ⟨k + 1, (by omega), (by omega), Sub.inv ⟨(by repeat (first | exact SubS_nil | refine SubS_cons rfl (by first | rfl | exact congrArg (SV.own 70 rKeyRange.n 0) (by rw [hs]; try simp; try omega)) ?_)), (by repeat (first | exact SubH_nil | refine SubH_cons rfl (by first | rfl | (refine congrArg (HB.mk rKeyRange) ?_; rw [hs]; try (simp only [List.drop_zero, List.take_of_length_le (Nat.le_refl _)]); first | done | rfl | (simp; done) | (rw [List.take_of_length_le (by simp)]; simp; done))) ?_))⟩ hi⟩)
    · simp at h5
      refine j_exit (je_seq (je_loop (je_blk (jn_seq (j_seq ?_)))))
      have hkk : k = t.2.2.2.length := by omega
      subst hkk
      rw [List.take_of_length_le (Nat.le_refl t.2.2.2.length)]
      rw [List.take_of_length_le (Nat.le_refl t.2.2.2.length)] at hcl
      have hM : (sortK (covL date lo hi t.2.2.2)).length = (covL date lo hi t.2.2.2).length := (sortK_ok _).2.2
      refine j_region ?_
      refine jg_adr _ rfl _ rfl rfl (op_move (.base rfl)) ?_
      refine jg_os _ rfl (op_turnK turnKR (.base rfl) (.base rfl) rfl (by rfl) (by omega) rfl) ?_
      refine jg_nil ?_
      refine jn_keep [2, 3, 9] [70] (.cons rfl (.cons rfl (.cons rfl .nil))) (.cons rfl .nil) ?_
      refine jn_seq (j_seq ?_)
      refine j_region ?_
      refine jg_adr _ rfl _ rfl rfl (op_assign (.base rfl)) ?_
      refine jg_nil ?_
      refine jn_keep [2, 3, 9, 13] [70] (.cons rfl (.cons rfl (.cons rfl (.cons rfl .nil)))) (.cons rfl .nil) ?_
      refine jn_seq (j_seq ?_)
      refine j_region ?_
      refine jg_adr _ rfl _ rfl rfl (op_move (.base rfl)) ?_
      refine jg_adr _ rfl _ rfl rfl (op_assign (.base rfl)) ?_
      refine jg_nil ?_
      refine jn_keep [3, 9, 13, 14] [70] (.cons rfl (.cons rfl (.cons rfl (.cons rfl .nil)))) (.cons rfl .nil) ?_
      refine jn_seq (j_seq (j_seq ?_))
      refine j_region ?_
      refine jg_adr _ rfl _ rfl rfl (op_move (.base rfl)) ?_
      refine jg_adr _ rfl _ rfl rfl (op_len_own Try.underlying37 (.base rfl)) ?_
      refine jg_adr _ rfl _ rfl rfl (op_move (.base rfl)) ?_
      refine jg_nil ?_
      refine jn_keep [3, 13, 14, 55, 56, 57] [70] (.cons rfl (.cons rfl (.cons rfl (.cons rfl (.cons rfl (.cons rfl .nil)))))) (.cons rfl .nil) ?_
      refine jn_seq (j_block ?_)
      refine j_vac 71 13 rKeyRange rfl rfl rfl ?_
      refine j_loopp (ι := Nat) (fun j => ⟨[(3, .raw (.int .i64 (hi))), (13, .own 71 rKeyRange.n 0 (gS (sortK (covL date lo hi t.2.2.2)) lo j).1.length), (14, .raw (.int .i64 ((gS (sortK (covL date lo hi t.2.2.2)) lo j).2))), (55, .own 70 rKeyRange.n 0 (covL date lo hi t.2.2.2).length), (56, .raw (.int .i64 ((covL date lo hi t.2.2.2).length))), (57, .raw (.int .i64 ((j : Nat))))], [(70, ⟨rKeyRange, (sortK (covL date lo hi t.2.2.2))⟩), (71, ⟨rKeyRange, (gS (sortK (covL date lo hi t.2.2.2)) lo j).1⟩)]⟩) (fun j => j ≤ (covL date lo hi t.2.2.2).length) (fun j => (covL date lo hi t.2.2.2).length - j) 0 (Nat.zero_le _) (fun a w hi => (Sub.inv ⟨(by repeat (first | exact SubS_nil | refine SubS_cons rfl (by first | rfl | (simp; done) | assumption) ?_)), (by repeat (first | exact SubH_nil | refine SubH_cons rfl (by first | rfl | (simp; done) | assumption) ?_))⟩ hi)) ?_
      rintro j hj
      have hgl := gS_len (M := (sortK (covL date lo hi t.2.2.2))) (lo := lo) j
      refine j_seq ?_
      refine j_region ?_
      refine jg_adr _ rfl _ rfl rfl (op_lss (.base rfl) (.base rfl)) ?_
      refine jg_nil ?_
      refine jn_keep [3, 13, 14, 55, 56, 57, 58] [70, 71] (.cons rfl (.cons rfl (.cons rfl (.cons rfl (.cons rfl (.cons rfl (.cons rfl .nil))))))) (.cons rfl (.cons rfl .nil)) ?_
      refine jn_seq (j_seq ?_)
      refine j_cond rfl (fun h15 => ?_) (fun h15 => ?_)
      · try simp at h15
        refine j_skip (jn_seq (j_seq (j_block (j_seq ?_))))
        have hj' : j < (covL date lo hi t.2.2.2).length := by omega
        have hjM : j < (sortK (covL date lo hi t.2.2.2)).length := by omega
        have hr : gS (sortK (covL date lo hi t.2.2.2)) lo (j + 1) = gStepK (gS (sortK (covL date lo hi t.2.2.2)) lo j) ((sortK (covL date lo hi t.2.2.2))[0 + j]'(by omega)) := by simp only [Nat.zero_add]; exact gS_succ hjM
        refine j_region ?_
        refine jg_adr _ rfl _ rfl rfl (op_oindex Try.underlying37 ty42 (.base rfl) (.base rfl) rfl (by first | omega | (simp; done) | (simp; omega))) ?_
        refine jg_adr _ rfl _ rfl rfl (op_oload ty42 (.base rfl) rfl (List.getElem?_eq_getElem (by first | omega | (simp; done) | (simp; omega))) (Lens.id _)) ?_
        refine jg_os _ rfl (op_alloc _ z42 rfl rfl rfl) ?_
        refine jg_os _ rfl (op_ostore ty42 (.base rfl) rfl rfl (Lens.id _) (.tv (.base rfl))) ?_
        refine jg_nil ?_
        refine jn_keep [3, 13, 14, 16, 55, 56, 57] [16, 70, 71] (.cons rfl (.cons rfl (.cons rfl (.cons rfl (.cons rfl (.cons rfl (.cons rfl .nil))))))) (.cons rfl (.cons rfl (.cons rfl .nil))) ?_
        refine jn_seq (j_seq (j_seq ?_))
        refine j_region ?_
        refine jg_adr _ rfl _ rfl rfl (op_move (.base rfl)) ?_
        refine jg_adr _ rfl _ rfl rfl (op_ofield fld42_0 (.base rfl)) ?_
        refine jg_adr _ rfl _ rfl rfl (op_oload ty3 (.base rfl) rfl rfl ln42_0) ?_
        refine jg_adr _ rfl _ rfl rfl (op_lss (.base rfl) (.base rfl)) ?_
        refine jg_nil ?_
        refine jn_keep [3, 13, 14, 16, 55, 56, 57, 64] [16, 70, 71] (.cons rfl (.cons rfl (.cons rfl (.cons rfl (.cons rfl (.cons rfl (.cons rfl (.cons rfl .nil)))))))) (.cons rfl (.cons rfl (.cons rfl .nil))) ?_
        refine jn_seq ?_
        refine j_cond rfl (fun h17 => ?_) (fun h17 => ?_)
        · have k17 : (gS (sortK (covL date lo hi t.2.2.2)) lo j).2 < ((sortK (covL date lo hi t.2.2.2))[0 + j]'(by omega)).1 := of_decide_eq_true h17
          have hs := hr
          unfold gStepK at hs
          rw [if_pos k17] at hs
          refine j_region ?_
          refine jg_adr _ rfl _ rfl rfl (op_move (.base rfl)) ?_
          refine jg_adr _ rfl _ rfl rfl (op_move (.base rfl)) ?_
          refine jg_adr _ rfl _ rfl rfl (op_ofield fld42_0 (.base rfl)) ?_
          refine jg_adr _ rfl _ rfl rfl (op_oload ty3 (.base rfl) rfl rfl ln42_0) ?_
          refine jg_adr _ rfl _ rfl rfl (op_build z42 rfl pl42 (.cons (rt' := (rInt .i64)) rfl ln42_0 (.raw (.base rfl) rfl) (.cons (rt' := (rInt .i64)) rfl ln42_1 (.raw (.base rfl) rfl) .nil))) ?_
          refine jg_adr _ rfl _ rfl rfl (op_bslice (rt := rKeyRange) Try.underlying37 ty42 z42 rfl (.cons (.tv (.base rfl)) .nil) rfl rfl) ?_
          refine jg_os _ rfl (op_append [3, 14, 16, 55, 56, 57] Try.underlying37 ty42 z42 rfl by42 (.base rfl) rfl (by (try simp); try omega) (.tv (.base rfl)) (by unfold maxLen; (try simp); try omega) (by (try simp); try omega) rfl (.cons rfl (.cons rfl (.cons rfl (.cons rfl (.cons rfl (.cons rfl .nil)))))) rfl) ?_
          refine jg_adr _ rfl _ rfl rfl (op_assign (.base rfl)) ?_
          refine jg_nil ?_
          refine jn_keep [3, 13, 14, 16, 55, 56, 57] [16, 70, 71] (.cons rfl (.cons rfl (.cons rfl (.cons rfl (.cons rfl (.cons rfl (.cons rfl .nil))))))) (.cons rfl (.cons rfl (.cons rfl .nil))) ?_
          refine jn_seq ?_
          refine j_region ?_
          refine jg_adr _ rfl _ rfl rfl (op_move (.base rfl)) ?_
          refine jg_adr _ rfl _ rfl rfl (op_ofield fld42_1 (.base rfl)) ?_
          refine jg_adr _ rfl _ rfl rfl (op_oload ty3 (.base rfl) rfl rfl ln42_1) ?_
          refine jg_adr _ rfl _ rfl rfl (op_max (.base rfl) (.base rfl)) ?_
          refine jg_adr _ rfl _ rfl rfl (op_assign (.base rfl)) ?_
          refine jg_nil ?_
          refine jn_keep [3, 13, 14, 55, 56, 57] [70, 71] (.cons rfl (.cons rfl (.cons rfl (.cons rfl (.cons rfl (.cons rfl .nil)))))) (.cons rfl (.cons rfl .nil)) ?_
          refine jn_blk (jn_seq ?_)
          refine j_region ?_
          refine jg_adr _ rfl _ rfl rfl (op_add (.base rfl) (.base rfl) (w64 (by omega))) ?_
          refine jg_adr _ rfl _ rfl rfl (op_move (.base rfl)) ?_
          refine jg_nil ?_
          refine jn_keep [3, 13, 14, 55, 56, 57] [70, 71] (.cons rfl (.cons rfl (.cons rfl (.cons rfl (.cons rfl (.cons rfl .nil)))))) (.cons rfl (.cons rfl .nil)) ?_
          exact jn_loop (fun a w hi => ⟨j + 1, (by omega), (by omega), Sub.inv ⟨(by repeat (first | exact SubS_nil | refine SubS_cons rfl (by first | rfl | exact congrArg (SV.own 71 rKeyRange.n 0) (by rw [hs]; try simp; try omega) | exact congrArg (fun z => SV.raw (Value.int .i64 z)) (by rw [hs]; try rfl)) ?_)), (by repeat (first | exact SubH_nil | refine SubH_cons rfl (by first | rfl | (refine congrArg (HB.mk rKeyRange) ?_; rw [hs]; try (simp only [List.drop_zero, List.take_of_length_le (Nat.le_refl _)]); first | done | rfl | (simp; done) | (rw [List.take_of_length_le (by simp)]; simp; done))) ?_))⟩ hi⟩)
        · have k17 : ¬ (gS (sortK (covL date lo hi t.2.2.2)) lo j).2 < ((sortK (covL date lo hi t.2.2.2))[0 + j]'(by omega)).1 := of_decide_eq_false h17
          have hs := hr
          unfold gStepK at hs
          rw [if_neg k17] at hs
          refine j_skip (jn_seq ?_)
          refine j_region ?_
          refine jg_adr _ rfl _ rfl rfl (op_move (.base rfl)) ?_
          refine jg_adr _ rfl _ rfl rfl (op_ofield fld42_1 (.base rfl)) ?_
          refine jg_adr _ rfl _ rfl rfl (op_oload ty3 (.base rfl) rfl rfl ln42_1) ?_
          refine jg_adr _ rfl _ rfl rfl (op_max (.base rfl) (.base rfl)) ?_
          refine jg_adr _ rfl _ rfl rfl (op_assign (.base rfl)) ?_
          refine jg_nil ?_
          refine jn_keep [3, 13, 14, 55, 56, 57] [70, 71] (.cons rfl (.cons rfl (.cons rfl (.cons rfl (.cons rfl (.cons rfl .nil)))))) (.cons rfl (.cons rfl .nil)) ?_
          refine jn_blk (jn_seq ?_)
          refine j_region ?_
          refine jg_adr _ rfl _ rfl rfl (op_add (.base rfl) (.base rfl) (w64 (by omega))) ?_
          refine jg_adr _ rfl _ rfl rfl (op_move (.base rfl)) ?_
          refine jg_nil ?_
          refine jn_keep [3, 13, 14, 55, 56, 57] [70, 71] (.cons rfl (.cons rfl (.cons rfl (.cons rfl (.cons rfl (.cons rfl .nil)))))) (.cons rfl (.cons rfl .nil)) ?_
          exact jn_loop (fun a w hi => ⟨j + 1, (by omega), (by omega), Sub.inv ⟨(by repeat (first | exact SubS_nil | refine SubS_cons rfl (by first | rfl | exact congrArg (SV.own 71 rKeyRange.n 0) (by rw [hs]; try simp; try omega) | exact congrArg (fun z => SV.raw (Value.int .i64 z)) (by rw [hs]; try rfl)) ?_)), (by repeat (first | exact SubH_nil | refine SubH_cons rfl (by first | rfl | (refine congrArg (HB.mk rKeyRange) ?_; rw [hs]; try (simp only [List.drop_zero, List.take_of_length_le (Nat.le_refl _)]); first | done | rfl | (simp; done) | (rw [List.take_of_length_le (by simp)]; simp; done))) ?_))⟩ hi⟩)
      · try simp at h15
        refine j_exit (je_seq (je_loop (je_blk (jn_seq (j_seq (j_seq ?_))))))
        have hjj : j = (covL date lo hi t.2.2.2).length := by omega
        have hge := gS_end (sortK (covL date lo hi t.2.2.2)) lo hi
        rw [hM, ← hjj] at hge
        rw [unc_eq (by omega)] at hge
        refine j_region ?_
        refine jg_adr _ rfl _ rfl rfl (op_move (.base rfl)) ?_
        refine jg_adr _ rfl _ rfl rfl (op_move (.base rfl)) ?_
        refine jg_adr _ rfl _ rfl rfl (op_lss (.base rfl) (.base rfl)) ?_
        refine jg_nil ?_
        refine jn_keep [3, 13, 14, 79] [71] (.cons rfl (.cons rfl (.cons rfl (.cons rfl .nil)))) (.cons rfl .nil) ?_
        refine jn_seq ?_
        refine j_cond rfl (fun h21 => ?_) (fun h21 => ?_)
        · have k21 : (gS (sortK (covL date lo hi t.2.2.2)) lo j).2 < hi := of_decide_eq_true h21
          rw [if_pos k21] at hge
          refine j_region ?_
          refine jg_adr _ rfl _ rfl rfl (op_move (.base rfl)) ?_
          refine jg_adr _ rfl _ rfl rfl (op_move (.base rfl)) ?_
          refine jg_adr _ rfl _ rfl rfl (op_move (.base rfl)) ?_
          refine jg_adr _ rfl _ rfl rfl (op_build z42 rfl pl42 (.cons (rt' := (rInt .i64)) rfl ln42_0 (.raw (.base rfl) rfl) (.cons (rt' := (rInt .i64)) rfl ln42_1 (.raw (.base rfl) rfl) .nil))) ?_
          refine jg_adr _ rfl _ rfl rfl (op_bslice (rt := rKeyRange) Try.underlying37 ty42 z42 rfl (.cons (.tv (.base rfl)) .nil) rfl rfl) ?_
          refine jg_os _ rfl (op_append [] Try.underlying37 ty42 z42 rfl by42 (.base rfl) rfl (by (try simp); try omega) (.tv (.base rfl)) (by unfold maxLen; (try simp); try omega) (by (try simp); try omega) rfl .nil rfl) ?_
          refine jg_adr _ rfl _ rfl rfl (op_assign (.base rfl)) ?_
          refine jg_nil ?_
          refine jn_keep [13] [71] (.cons rfl .nil) (.cons rfl .nil) ?_
          refine jn_seq (j_seq ?_)
          refine j_region ?_
          refine jg_adr _ rfl _ rfl rfl (op_move (.base rfl)) ?_
          refine jg_adr _ rfl _ rfl rfl (op_assign (.base rfl)) ?_
          refine jg_nil ?_
          refine jn_keep [8] [71] (.cons rfl .nil) (.cons rfl .nil) ?_
          refine jn_seq (j_ret ?_)
          refine jr_seal (rt := rKeyRange) 71 8 (dropH 71 _) rfl rfl (by simp) (dropH_sub 71 _) (dropH_no 71 _) ?_
          exact jr_fin1 Try.results17 (res_tmp rfl) rfl (congrArg (SV.tv (rSlice rKeyRange)) (by first | (simpa using hge) | (rw [← hge]; simp only [List.drop_zero, List.take_of_length_le (Nat.le_refl _)]; exact List.take_of_length_le (by simp))))
        · have k21 : ¬ (gS (sortK (covL date lo hi t.2.2.2)) lo j).2 < hi := of_decide_eq_false h21
          rw [if_neg k21, List.append_nil] at hge
          refine j_skip (jn_seq (j_seq ?_))
          refine j_region ?_
          refine jg_adr _ rfl _ rfl rfl (op_move (.base rfl)) ?_
          refine jg_adr _ rfl _ rfl rfl (op_assign (.base rfl)) ?_
          refine jg_nil ?_
          refine jn_keep [8] [71] (.cons rfl .nil) (.cons rfl .nil) ?_
          refine jn_seq (j_ret ?_)
          refine jr_seal (rt := rKeyRange) 71 8 (dropH 71 _) rfl rfl (by simp) (dropH_sub 71 _) (dropH_no 71 _) ?_
          exact jr_fin1 Try.results17 (res_tmp rfl) rfl (congrArg (SV.tv (rSlice rKeyRange)) (by first | (simpa using hge) | (rw [← hge]; simp only [List.drop_zero, List.take_of_length_le (Nat.le_refl _)]; exact List.take_of_length_le (by simp))))

end Go.Proofs.Ytcdkmhmlpjnfeaa
