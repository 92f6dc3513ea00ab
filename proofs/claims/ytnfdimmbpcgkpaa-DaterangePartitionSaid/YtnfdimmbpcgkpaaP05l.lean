import Derived.Test.YtnfdimmbpcgkpaaP05k
namespace Go.Proofs.Ytnfdimmbpcgkpaa
open Go.Eng
set_option maxRecDepth 100000
set_option maxHeartbeats 4000000
set_option linter.unusedVariables false
set_option linter.unusedSimpArgs false


def gStep (w : Rg) (s : Int × List Rg) (x : Rg) : Int × List Rg := if (interR x w).2 = false then s else ((interR x w).1.2, s.2 ++ if s.1 < (interR x w).1.1 then [(s.1, (interR x w).1.1)] else [])
def gK (u : List Rg) (w : Rg) (j : Nat) : Int × List Rg := (u.take j).foldl (gStep w) (w.1, [])
theorem gK_succ {u : List Rg} {w : Rg} {j : Nat} (h : j < u.length) : gK u w (j + 1) = gStep w (gK u w j) u[j] := by
  unfold gK; rw [← List.take_append_getElem h, List.foldl_append]; rfl
theorem gK_len {u : List Rg} {w : Rg} : ∀ j, (gK u w j).2.length ≤ j
  | 0 => by simp [gK]
  | j + 1 => by
    have ih := gK_len (u := u) (w := w) j
    rcases Nat.lt_or_ge j u.length with h | h
    · rw [gK_succ h]; unfold gStep; split
      · omega
      · simp only [List.length_append]; split <;> simp <;> omega
    · have e : gK u w (j + 1) = gK u w j := by unfold gK; rw [List.take_of_length_le (by omega), List.take_of_length_le h]
      rw [e]; omega
theorem g_end (w : Rg) : ∀ (u : List Rg) (f : Int) (out : List Rg), ((u.foldl (gStep w) (f, out)).2 ++ if (u.foldl (gStep w) (f, out)).1 < w.2 then [((u.foldl (gStep w) (f, out)).1, w.2)] else []) = out ++ gapsS u w f
  | [], f, out => rfl
  | x :: u, f, out => by
    rw [List.foldl_cons, gapsS]
    by_cases h : (interR x w).2 = false
    · rw [gStep, if_pos h, if_pos h]; exact g_end w u f out
    · rw [gStep, if_neg h, if_neg h, g_end w u, List.append_assoc]
theorem gapsP_of {l : List Rg} {w : Rg} (h : hasD w = true) : ((gK (unionR l) w (unionR l).length).2 ++ if (gK (unionR l) w (unionR l).length).1 < w.2 then [((gK (unionR l) w (unionR l).length).1, w.2)] else []) = gapsP l w := by
  unfold gapsP gK
  rw [if_neg (show ¬ hasD w = false by simp [h]), List.take_of_length_le (Nat.le_refl _), g_end, List.nil_append]

theorem gaps_ok (l : List Rg) (v : Rg) (hlm : l.length ≤ 1000000) : Ct Try.prog 14 [.tv (rSlice rDateRange) l, .tv rDateRange v] (.tv (rSlice rDateRange) (gapsP l v)) := by
  refine ct_intro Try.func14 rfl rfl Try.ntmps14 rfl rfl ?_
  intro w0 ok0
  refine j_len 0 rfl (fun hl0 => ?_)
  refine j_seq ?_
  refine j_region ?_
  refine jg_os _ rfl (op_box (.tv (.base rfl)) rfl rfl rfl) ?_
  refine jg_adr _ rfl _ rfl rfl (op_assign (.base rfl)) ?_
  refine jg_nil ?_
  refine jn_keep [0, 3] [3] (.cons rfl (.cons rfl .nil)) (.cons rfl .nil) ?_
  refine jn_seq (j_seq (j_seq ?_))
  refine j_region ?_
  refine jg_adr _ rfl _ rfl rfl (op_oload ty24 (.base rfl) rfl rfl (Lens.id _)) ?_
  refine jg_adr _ rfl _ rfl rfl (op_call (hasDate_ok _) (.cons (.base rfl) .nil) rfl rfl) ?_
  refine jg_adr _ rfl _ rfl rfl (op_not (.base rfl)) ?_
  refine jg_nil ?_
  refine jn_keep [0, 3, 13] [3] (.cons rfl (.cons rfl (.cons rfl .nil))) (.cons rfl .nil) ?_
  refine jn_seq ?_
  refine j_cond rfl (fun h1 => ?_) (fun h1 => ?_)
  · have k1 : hasD v = false := by simpa using h1
    refine j_seq ?_
    refine j_region ?_
    refine jg_adr _ rfl _ rfl rfl (op_assign (.base rfl)) ?_
    refine jg_nil ?_
    refine jn_keep [4] [] (.cons rfl .nil) .nil ?_
    refine jn_seq (j_ret (jr_seq ?_))
    exact jr_fin1 Try.results14 (res_nil rfl) rfl (congrArg (SV.tv (rSlice rDateRange)) (by unfold gapsP; rw [if_pos k1]))
  · have k1 : hasD v = true := by simpa using h1
    refine j_skip (jn_seq (j_seq ?_))
    refine j_region ?_
    refine jg_adr _ rfl _ rfl rfl (op_assign (.base rfl)) ?_
    refine jg_nil ?_
    refine jn_keep [0, 3, 5] [3] (.cons rfl (.cons rfl (.cons rfl .nil))) (.cons rfl .nil) ?_
    refine jn_seq (j_seq ?_)
    refine j_region ?_
    refine jg_adr _ rfl _ rfl rfl (op_ofield fld24_0 (.base rfl)) ?_
    refine jg_adr _ rfl _ rfl rfl (op_oload ty3 (.base rfl) rfl rfl ln24_0) ?_
    refine jg_adr _ rfl _ rfl rfl (op_assign (.base rfl)) ?_
    refine jg_nil ?_
    refine jn_keep [0, 3, 5, 6] [3] (.cons rfl (.cons rfl (.cons rfl (.cons rfl .nil)))) (.cons rfl .nil) ?_
    refine jn_seq (j_seq (j_seq ?_))
    have hul := norm_len (unionR_ok l).1
    refine j_region ?_
    refine jg_adr _ rfl _ rfl rfl (op_move (.base rfl)) ?_
    refine jg_adr _ rfl _ rfl rfl (op_call (union_ok _ hlm) (.cons (.base rfl) .nil) rfl rfl) ?_
    refine jg_adr _ rfl _ rfl rfl (op_len Try.underlying22 (.base rfl)) ?_
    refine jg_adr _ rfl _ rfl rfl (op_move (.base rfl)) ?_
    refine jg_nil ?_
    refine jn_keep [3, 5, 6, 17, 18, 19] [3] (.cons rfl (.cons rfl (.cons rfl (.cons rfl (.cons rfl (.cons rfl .nil)))))) (.cons rfl .nil) ?_
    refine jn_seq (j_block ?_)
    refine j_vac 70 5 rDateRange rfl rfl rfl ?_
    refine j_loopp (ι := Nat) (fun j => ⟨[(3, .optr 3 rDateRange.n 0 0), (5, .own 70 rDateRange.n 0 (gK (unionR l) v j).2.length), (6, .raw (.int .i64 ((gK (unionR l) v j).1))), (17, .tv (rSlice rDateRange) (unionR l)), (18, .raw (.int .i64 ((unionR l).length))), (19, .raw (.int .i64 ((j : Nat))))], [(3, ⟨rDateRange, [v]⟩), (70, ⟨rDateRange, (gK (unionR l) v j).2⟩)]⟩) (fun j => j ≤ (unionR l).length) (fun j => (unionR l).length - j) 0 (Nat.zero_le _) (fun a w hi => (Sub.inv ⟨(by repeat (first | exact SubS_nil | refine SubS_cons rfl (by first | rfl | (simp; done) | assumption) ?_)), (by repeat (first | exact SubH_nil | refine SubH_cons rfl (by first | rfl | (simp; done) | assumption) ?_))⟩ hi)) ?_
    rintro j hj
    have hgl := gK_len (u := (unionR l)) (w := v) j
    refine j_seq ?_
    refine j_region ?_
    refine jg_adr _ rfl _ rfl rfl (op_lss (.base rfl) (.base rfl)) ?_
    refine jg_nil ?_
    refine jn_keep [3, 5, 6, 17, 18, 19, 20] [3, 70] (.cons rfl (.cons rfl (.cons rfl (.cons rfl (.cons rfl (.cons rfl (.cons rfl .nil))))))) (.cons rfl (.cons rfl .nil)) ?_
    refine jn_seq (j_seq ?_)
    refine j_cond rfl (fun h6 => ?_) (fun h6 => ?_)
    · try simp at h6
      refine j_skip (jn_seq (j_seq (j_block (j_seq ?_))))
      refine j_region ?_
      refine jg_adr _ rfl _ rfl rfl (op_index Try.underlying22 ty24 (.base rfl) (.base rfl) rfl (List.getElem?_eq_getElem (by first | omega | (simp; done) | (simp; omega) | (simp at hg; omega)))) ?_
      refine jg_adr _ rfl _ rfl rfl (op_load ty24 (.base rfl)) ?_
      refine jg_os _ rfl (op_alloc _ z24 rfl rfl rfl) ?_
      refine jg_os _ rfl (op_ostore ty24 (.base rfl) rfl rfl (Lens.id _) (.tv (.base rfl))) ?_
      refine jg_nil ?_
      refine jn_keep [3, 5, 6, 8, 17, 18, 19] [3, 8, 70] (.cons rfl (.cons rfl (.cons rfl (.cons rfl (.cons rfl (.cons rfl (.cons rfl .nil))))))) (.cons rfl (.cons rfl (.cons rfl .nil))) ?_
      refine jn_seq (j_seq ?_)
      have hr := gK_succ (u := (unionR l)) (w := v) (j := j) (by omega)
      refine j_region ?_
      refine jg_adr _ rfl _ rfl rfl (op_oload ty24 (.base rfl) rfl rfl (Lens.id _)) ?_
      refine jg_adr _ rfl _ rfl rfl (op_oload ty24 (.base rfl) rfl rfl (Lens.id _)) ?_
      refine jg_adr _ rfl _ rfl rfl (op_call (intersect_ok _ _) (.cons (.base rfl) (.cons (.base rfl) .nil)) rfl rfl) ?_
      refine jg_adr _ rfl _ rfl rfl (op_move (.base rfl)) ?_
      refine jg_adr _ rfl _ rfl rfl (op_ext20 (.base rfl)) ?_
      refine jg_adr _ rfl _ rfl rfl (op_ext21 (.base rfl)) ?_
      refine jg_os _ rfl (op_alloc _ z24 rfl rfl rfl) ?_
      refine jg_os _ rfl (op_ostore ty24 (.base rfl) rfl rfl (Lens.id _) (.tv (.base rfl))) ?_
      refine jg_adr _ rfl _ rfl rfl (op_assign (.base rfl)) ?_
      refine jg_nil ?_
      refine jn_keep [3, 5, 6, 9, 10, 17, 18, 19] [3, 9, 70] (.cons rfl (.cons rfl (.cons rfl (.cons rfl (.cons rfl (.cons rfl (.cons rfl (.cons rfl .nil)))))))) (.cons rfl (.cons rfl (.cons rfl .nil))) ?_
      refine jn_seq (j_seq (j_seq ?_))
      refine j_region ?_
      refine jg_adr _ rfl _ rfl rfl (op_move (.base rfl)) ?_
      refine jg_adr _ rfl _ rfl rfl (op_not (.base rfl)) ?_
      refine jg_nil ?_
      refine jn_keep [3, 5, 6, 9, 17, 18, 19, 30] [3, 9, 70] (.cons rfl (.cons rfl (.cons rfl (.cons rfl (.cons rfl (.cons rfl (.cons rfl (.cons rfl .nil)))))))) (.cons rfl (.cons rfl (.cons rfl .nil))) ?_
      refine jn_seq ?_
      refine j_cond rfl (fun h9 => ?_) (fun h9 => ?_)
      · have k9 : (interR ((unionR l)[j]'(by omega)) v).2 = false := by simpa using h9
        have hs := hr
        rw [gStep, if_pos k9] at hs
        refine j_exit (je_seq (je_blk (jn_seq ?_)))
        refine j_region ?_
        refine jg_adr _ rfl _ rfl rfl (op_add (.base rfl) (.base rfl) (w64 (by omega))) ?_
        refine jg_adr _ rfl _ rfl rfl (op_move (.base rfl)) ?_
        refine jg_nil ?_
        refine jn_keep [3, 5, 6, 17, 18, 19] [3, 70] (.cons rfl (.cons rfl (.cons rfl (.cons rfl (.cons rfl (.cons rfl .nil)))))) (.cons rfl (.cons rfl .nil)) ?_
        exact jn_loop (fun a w2 hi => ⟨j + 1, (by omega), (by omega), Sub.inv ⟨(by repeat (first | exact SubS_nil | refine SubS_cons rfl (by first | rfl | exact congrArg (SV.own 70 rDateRange.n 0) (by rw [hs]; try simp; try omega) | exact congrArg (fun z => SV.raw (Value.int .i64 z)) (by rw [hs]; try rfl)) ?_)), (by repeat (first | exact SubH_nil | refine SubH_cons rfl (by first | rfl | (refine congrArg (HB.mk rDateRange) ?_; rw [hs]; try (simp only [List.drop_zero, List.take_of_length_le (Nat.le_refl _)]); first | done | rfl | (simp; done))) ?_))⟩ hi⟩)
      · have k9 : ¬ (interR ((unionR l)[j]'(by omega)) v).2 = false := by simpa using h9
        rw [gStep, if_neg k9] at hr
        refine j_skip (jn_seq (j_seq (j_seq ?_)))
        refine j_region ?_
        refine jg_adr _ rfl _ rfl rfl (op_move (.base rfl)) ?_
        refine jg_adr _ rfl _ rfl rfl (op_ofield fld24_0 (.base rfl)) ?_
        refine jg_adr _ rfl _ rfl rfl (op_oload ty3 (.base rfl) rfl rfl ln24_0) ?_
        refine jg_adr _ rfl _ rfl rfl (op_lss (.base rfl) (.base rfl)) ?_
        refine jg_nil ?_
        refine jn_keep [3, 5, 6, 9, 17, 18, 19, 34] [3, 9, 70] (.cons rfl (.cons rfl (.cons rfl (.cons rfl (.cons rfl (.cons rfl (.cons rfl (.cons rfl .nil)))))))) (.cons rfl (.cons rfl (.cons rfl .nil))) ?_
        refine jn_seq ?_
        refine j_cond rfl (fun h10 => ?_) (fun h10 => ?_)
        · have k10 : (gK (unionR l) v j).1 < (interR ((unionR l)[j]'(by omega)) v).1.1 := by simpa using h10
          have hs := hr
          rw [if_pos k10] at hs
          refine j_region ?_
          refine jg_adr _ rfl _ rfl rfl (op_move (.base rfl)) ?_
          refine jg_adr _ rfl _ rfl rfl (op_move (.base rfl)) ?_
          refine jg_adr _ rfl _ rfl rfl (op_ofield fld24_0 (.base rfl)) ?_
          refine jg_adr _ rfl _ rfl rfl (op_oload ty3 (.base rfl) rfl rfl ln24_0) ?_
          refine jg_adr _ rfl _ rfl rfl (op_build z24 rfl pl24 (.cons (rt' := (rInt .i64)) rfl ln24_0 (.raw (.base rfl) rfl) (.cons (rt' := (rInt .i64)) rfl ln24_1 (.raw (.base rfl) rfl) .nil))) ?_
          refine jg_adr _ rfl _ rfl rfl (op_bslice (rt := rDateRange) Try.underlying22 ty24 z24 rfl (.cons (.tv (.base rfl)) .nil) rfl rfl) ?_
          refine jg_os _ rfl (op_append [3, 9, 17, 18, 19] Try.underlying22 ty24 z24 rfl by24 (.base rfl) rfl (by (try simp); try omega) (.tv (.base rfl)) (by unfold maxLen; (try simp); try omega) (by (try simp); try omega) rfl (.cons rfl (.cons rfl (.cons rfl (.cons rfl (.cons rfl .nil))))) rfl) ?_
          refine jg_adr _ rfl _ rfl rfl (op_assign (.base rfl)) ?_
          refine jg_nil ?_
          refine jn_keep [3, 5, 9, 17, 18, 19] [3, 9, 70] (.cons rfl (.cons rfl (.cons rfl (.cons rfl (.cons rfl (.cons rfl .nil)))))) (.cons rfl (.cons rfl (.cons rfl .nil))) ?_
          refine jn_seq ?_
          refine j_region ?_
          refine jg_adr _ rfl _ rfl rfl (op_ofield fld24_1 (.base rfl)) ?_
          refine jg_adr _ rfl _ rfl rfl (op_oload ty3 (.base rfl) rfl rfl ln24_1) ?_
          refine jg_adr _ rfl _ rfl rfl (op_assign (.base rfl)) ?_
          refine jg_nil ?_
          refine jn_keep [3, 5, 6, 17, 18, 19] [3, 70] (.cons rfl (.cons rfl (.cons rfl (.cons rfl (.cons rfl (.cons rfl .nil)))))) (.cons rfl (.cons rfl .nil)) ?_
          refine jn_blk (jn_seq ?_)
          refine j_region ?_
          refine jg_adr _ rfl _ rfl rfl (op_add (.base rfl) (.base rfl) (w64 (by omega))) ?_
          refine jg_adr _ rfl _ rfl rfl (op_move (.base rfl)) ?_
          refine jg_nil ?_
          refine jn_keep [3, 5, 6, 17, 18, 19] [3, 70] (.cons rfl (.cons rfl (.cons rfl (.cons rfl (.cons rfl (.cons rfl .nil)))))) (.cons rfl (.cons rfl .nil)) ?_
          exact jn_loop (fun a w2 hi => ⟨j + 1, (by omega), (by omega), Sub.inv ⟨(by repeat (first | exact SubS_nil | refine SubS_cons rfl (by first | rfl | exact congrArg (SV.own 70 rDateRange.n 0) (by rw [hs]; try simp; try omega) | exact congrArg (fun z => SV.raw (Value.int .i64 z)) (by rw [hs]; try rfl)) ?_)), (by repeat (first | exact SubH_nil | refine SubH_cons rfl (by first | rfl | (refine congrArg (HB.mk rDateRange) ?_; rw [hs]; try (simp only [List.drop_zero, List.take_of_length_le (Nat.le_refl _)]); first | done | rfl | (simp; done))) ?_))⟩ hi⟩)
        · have k10 : ¬ (gK (unionR l) v j).1 < (interR ((unionR l)[j]'(by omega)) v).1.1 := by simpa using h10
          have hs := hr
          rw [if_neg k10, List.append_nil] at hs
          refine j_skip (jn_seq ?_)
          refine j_region ?_
          refine jg_adr _ rfl _ rfl rfl (op_ofield fld24_1 (.base rfl)) ?_
          refine jg_adr _ rfl _ rfl rfl (op_oload ty3 (.base rfl) rfl rfl ln24_1) ?_
          refine jg_adr _ rfl _ rfl rfl (op_assign (.base rfl)) ?_
          refine jg_nil ?_
          refine jn_keep [3, 5, 6, 17, 18, 19] [3, 70] (.cons rfl (.cons rfl (.cons rfl (.cons rfl (.cons rfl (.cons rfl .nil)))))) (.cons rfl (.cons rfl .nil)) ?_
          refine jn_blk (jn_seq ?_)
          refine j_region ?_
          refine jg_adr _ rfl _ rfl rfl (op_add (.base rfl) (.base rfl) (w64 (by omega))) ?_
          refine jg_adr _ rfl _ rfl rfl (op_move (.base rfl)) ?_
          refine jg_nil ?_
          refine jn_keep [3, 5, 6, 17, 18, 19] [3, 70] (.cons rfl (.cons rfl (.cons rfl (.cons rfl (.cons rfl (.cons rfl .nil)))))) (.cons rfl (.cons rfl .nil)) ?_
          exact jn_loop (fun a w2 hi => ⟨j + 1, (by omega), (by omega), Sub.inv ⟨(by repeat (first | exact SubS_nil | refine SubS_cons rfl (by first | rfl | exact congrArg (SV.own 70 rDateRange.n 0) (by rw [hs]; try simp; try omega) | exact congrArg (fun z => SV.raw (Value.int .i64 z)) (by rw [hs]; try rfl)) ?_)), (by repeat (first | exact SubH_nil | refine SubH_cons rfl (by first | rfl | (refine congrArg (HB.mk rDateRange) ?_; rw [hs]; try (simp only [List.drop_zero, List.take_of_length_le (Nat.le_refl _)]); first | done | rfl | (simp; done))) ?_))⟩ hi⟩)
    · try simp at h6
      refine j_exit (je_seq (je_loop (je_blk (jn_seq (j_seq (j_seq ?_))))))
      have hjj : j = (unionR l).length := by omega
      subst hjj
      have hge := gapsP_of (l := l) k1
      refine j_region ?_
      refine jg_adr _ rfl _ rfl rfl (op_move (.base rfl)) ?_
      refine jg_adr _ rfl _ rfl rfl (op_ofield fld24_1 (.base rfl)) ?_
      refine jg_adr _ rfl _ rfl rfl (op_oload ty3 (.base rfl) rfl rfl ln24_1) ?_
      refine jg_adr _ rfl _ rfl rfl (op_lss (.base rfl) (.base rfl)) ?_
      refine jg_nil ?_
      refine jn_keep [3, 5, 6, 48] [3, 70] (.cons rfl (.cons rfl (.cons rfl (.cons rfl .nil)))) (.cons rfl (.cons rfl .nil)) ?_
      refine jn_seq ?_
      refine j_cond rfl (fun h14 => ?_) (fun h14 => ?_)
      · have k14 : (gK (unionR l) v (unionR l).length).1 < v.2 := by simpa using h14
        rw [if_pos k14] at hge
        refine j_region ?_
        refine jg_adr _ rfl _ rfl rfl (op_move (.base rfl)) ?_
        refine jg_adr _ rfl _ rfl rfl (op_move (.base rfl)) ?_
        refine jg_adr _ rfl _ rfl rfl (op_ofield fld24_1 (.base rfl)) ?_
        refine jg_adr _ rfl _ rfl rfl (op_oload ty3 (.base rfl) rfl rfl ln24_1) ?_
        refine jg_adr _ rfl _ rfl rfl (op_build z24 rfl pl24 (.cons (rt' := (rInt .i64)) rfl ln24_0 (.raw (.base rfl) rfl) (.cons (rt' := (rInt .i64)) rfl ln24_1 (.raw (.base rfl) rfl) .nil))) ?_
        refine jg_adr _ rfl _ rfl rfl (op_bslice (rt := rDateRange) Try.underlying22 ty24 z24 rfl (.cons (.tv (.base rfl)) .nil) rfl rfl) ?_
        refine jg_os _ rfl (op_append [] Try.underlying22 ty24 z24 rfl by24 (.base rfl) rfl (by (try simp); try omega) (.tv (.base rfl)) (by unfold maxLen; (try simp); try omega) (by (try simp); try omega) rfl .nil rfl) ?_
        refine jg_adr _ rfl _ rfl rfl (op_assign (.base rfl)) ?_
        refine jg_nil ?_
        refine jn_keep [5] [70] (.cons rfl .nil) (.cons rfl .nil) ?_
        refine jn_seq (j_seq ?_)
        refine j_region ?_
        refine jg_adr _ rfl _ rfl rfl (op_move (.base rfl)) ?_
        refine jg_adr _ rfl _ rfl rfl (op_assign (.base rfl)) ?_
        refine jg_nil ?_
        refine jn_keep [4] [70] (.cons rfl .nil) (.cons rfl .nil) ?_
        refine jn_seq (j_ret ?_)
        refine jr_seal (rt := rDateRange) 70 4 (dropH 70 _) rfl rfl (by simp) (dropH_sub 70 _) (dropH_no 70 _) ?_
        exact jr_fin1 Try.results14 (res_tmp rfl) rfl (congrArg (SV.tv (rSlice rDateRange)) (by first | (simpa using hge) | (rw [← hge]; simp only [List.drop_zero, List.take_of_length_le (Nat.le_refl _)]; exact List.take_of_length_le (by simp))))
      · have k14 : ¬ (gK (unionR l) v (unionR l).length).1 < v.2 := by simpa using h14
        rw [if_neg k14, List.append_nil] at hge
        refine j_skip (jn_seq (j_seq ?_))
        refine j_region ?_
        refine jg_adr _ rfl _ rfl rfl (op_move (.base rfl)) ?_
        refine jg_adr _ rfl _ rfl rfl (op_assign (.base rfl)) ?_
        refine jg_nil ?_
        refine jn_keep [4] [70] (.cons rfl .nil) (.cons rfl .nil) ?_
        refine jn_seq (j_ret ?_)
        refine jr_seal (rt := rDateRange) 70 4 (dropH 70 _) rfl rfl (by simp) (dropH_sub 70 _) (dropH_no 70 _) ?_
        exact jr_fin1 Try.results14 (res_tmp rfl) rfl (congrArg (SV.tv (rSlice rDateRange)) (by first | (simpa using hge) | (rw [← hge]; simp only [List.drop_zero, List.take_of_length_le (Nat.le_refl _)]; exact List.take_of_length_le (by simp))))

theorem sub_ok (a b : Rg) : Ct Try.prog 27 [.tv rDateRange a, .tv rDateRange b] (.tv (rSlice rDateRange) (subR a b)) := by
  refine ct_intro Try.func27 rfl rfl Try.ntmps27 rfl rfl ?_
  intro w0 ok0
  refine j_seq ?_
  refine j_region ?_
  refine jg_os _ rfl (op_box (.tv (.base rfl)) rfl rfl rfl) ?_
  refine jg_os _ rfl (op_box (.tv (.base rfl)) rfl rfl rfl) ?_
  refine jg_adr _ rfl _ rfl rfl (op_assign (.base rfl)) ?_
  refine jg_nil ?_
  refine jn_keep [2, 3] [2, 3] (.cons rfl (.cons rfl .nil)) (.cons rfl (.cons rfl .nil)) ?_
  refine jn_seq (j_seq ?_)
  refine j_region ?_
  refine jg_adr _ rfl _ rfl rfl (op_oload ty24 (.base rfl) rfl rfl (Lens.id _)) ?_
  refine jg_adr _ rfl _ rfl rfl (op_bslice (rt := rDateRange) Try.underlying22 ty24 z24 rfl (.cons (.tv (.base rfl)) .nil) rfl rfl) ?_
  refine jg_adr _ rfl _ rfl rfl (op_oload ty24 (.base rfl) rfl rfl (Lens.id _)) ?_
  refine jg_adr _ rfl _ rfl rfl (op_call (gaps_ok _ _ (by simp)) (.cons (.base rfl) (.cons (.base rfl) .nil)) rfl rfl) ?_
  refine jg_adr _ rfl _ rfl rfl (op_assign (.base rfl)) ?_
  refine jg_nil ?_
  refine jn_keep [4] [] (.cons rfl .nil) .nil ?_
  refine jn_seq (j_ret ?_)
  exact jr_fin1 Try.results27 (res_tmp rfl) rfl (congrArg (SV.tv (rSlice rDateRange)) (gaps_one _ _))

end Go.Proofs.Ytnfdimmbpcgkpaa
