import Derived.Test.YtnfdimmbpcgkpaaP05c
namespace Go.Proofs.Ytnfdimmbpcgkpaa
open Go.Eng
set_option maxRecDepth 100000
set_option maxHeartbeats 4000000
set_option linter.unusedVariables false
set_option linter.unusedSimpArgs false


theorem put1_len : ∀ (l : List Rg) (r : Rg), (put1 l r).1.length ≤ l.length
  | [], _ => Nat.le_refl _
  | x :: l, r => by
    rw [put1]
    by_cases c1 : x.2 < r.1
    · rw [if_pos c1]; have := put1_len l r; simp; omega
    · rw [if_neg c1]
      by_cases c2 : x.1 ≤ r.2
      · rw [if_pos c2]; exact Nat.le_trans (put1_len l _) (by simp)
      · rw [if_neg c2]; exact Nat.le_trans (put1_len l r) (by simp)
/-- the first loop, on the way -/
def pAt (l : List Rg) (r : Rg) (k : Nat) : List Rg × Rg := put1 (l.take k) r
theorem put1_snoc : ∀ (l : List Rg) (x r : Rg), put1 (l ++ [x]) r =
    if x.2 < (put1 l r).2.1 then ((put1 l r).1 ++ [x], (put1 l r).2) else if x.1 ≤ (put1 l r).2.2 then ((put1 l r).1, (if x.1 < (put1 l r).2.1 then x.1 else (put1 l r).2.1, if (put1 l r).2.2 < x.2 then x.2 else (put1 l r).2.2)) else put1 l r
  | [], x, r => rfl
  | y :: l, x, r => by
    rw [List.cons_append, put1, put1]
    by_cases c1 : y.2 < r.1
    · rw [if_pos c1, if_pos c1, put1_snoc l x r]
      simp only
      split
      · rfl
      · split <;> rfl
    · rw [if_neg c1, if_neg c1]
      by_cases c2 : y.1 ≤ r.2
      · rw [if_pos c2, if_pos c2, put1_snoc l x _]
      · rw [if_neg c2, if_neg c2, put1_snoc l x r]
theorem pAt_succ {l : List Rg} {r : Rg} {k : Nat} (hk : k < l.length) : pAt l r (k + 1) = if l[k].2 < (pAt l r k).2.1 then ((pAt l r k).1 ++ [l[k]], (pAt l r k).2) else if l[k].1 ≤ (pAt l r k).2.2 then ((pAt l r k).1, (if l[k].1 < (pAt l r k).2.1 then l[k].1 else (pAt l r k).2.1, if (pAt l r k).2.2 < l[k].2 then l[k].2 else (pAt l r k).2.2)) else pAt l r k := by
  unfold pAt; rw [← List.take_append_getElem hk, put1_snoc]
theorem pA {l : List Rg} {r : Rg} {k : Nat} (hk : k < l.length) (h : l[k].2 < (pAt l r k).2.1) : (pAt l r (k + 1)).1 = (pAt l r k).1 ++ [l[k]] ∧ (pAt l r (k + 1)).2 = (pAt l r k).2 := by rw [pAt_succ hk, if_pos h]; exact ⟨rfl, rfl⟩
theorem pB {l : List Rg} {r : Rg} {k : Nat} (hk : k < l.length) (h : ¬ l[k].2 < (pAt l r k).2.1) (h2 : l[k].1 ≤ (pAt l r k).2.2) : (pAt l r (k + 1)).1 = (pAt l r k).1 ∧ (pAt l r (k + 1)).2 = (if l[k].1 < (pAt l r k).2.1 then l[k].1 else (pAt l r k).2.1, if (pAt l r k).2.2 < l[k].2 then l[k].2 else (pAt l r k).2.2) := by rw [pAt_succ hk, if_neg h, if_pos h2]; exact ⟨rfl, rfl⟩
theorem pC {l : List Rg} {r : Rg} {k : Nat} (hk : k < l.length) (h : ¬ l[k].2 < (pAt l r k).2.1) (h2 : ¬ l[k].1 ≤ (pAt l r k).2.2) : (pAt l r (k + 1)).1 = (pAt l r k).1 ∧ (pAt l r (k + 1)).2 = (pAt l r k).2 := by rw [pAt_succ hk, if_neg h, if_neg h2]; exact ⟨rfl, rfl⟩
theorem pAt_len {l : List Rg} {r : Rg} {k : Nat} : (pAt l r k).1.length ≤ l.length := Nat.le_trans (put1_len _ _) (by simp; omega)
theorem pAt_end (l : List Rg) (r : Rg) : pAt l r l.length = put1 l r := by unfold pAt; rw [List.take_of_length_le (Nat.le_refl _)]
theorem flt_t {p : Rg → Bool} {l : List Rg} {k : Nat} (hk : k < l.length) (h : p l[k] = true) : (l.take (k + 1)).filter p = (l.take k).filter p ++ [l[k]] := by rw [← List.take_append_getElem hk, List.filter_append]; simp [h]
theorem flt_f {p : Rg → Bool} {l : List Rg} {k : Nat} (hk : k < l.length) (h : p l[k] = false) : (l.take (k + 1)).filter p = (l.take k).filter p := by rw [← List.take_append_getElem hk, List.filter_append]; simp [h]
theorem flt_len {p : Rg → Bool} {l : List Rg} {k : Nat} : ((l.take k).filter p).length ≤ l.length := Nat.le_trans (List.length_filter_le _ _) (by simp; omega)
theorem putS_len (l : List Rg) (r : Rg) : (putS l r).length ≤ 2 * l.length + 1 := by
  have h1 := put1_len l r
  have h2 := List.length_filter_le (fun x : Rg => decide ((put1 l r).2.2 < x.1)) l
  simp only [putS, List.length_append, List.length_cons, List.length_nil]; omega

theorem put_ok (l : List Rg) (r : Rg) (hlm : l.length ≤ 1000000) : Ct Try.prog 34 [.tv (rSlice rDateRange) l, .tv rDateRange r] (.tv (rSlice rDateRange) (putS l r)) := by
  refine ct_intro Try.func34 rfl rfl Try.ntmps34 rfl rfl ?_
  intro w0 ok0
  refine j_seq ?_
  refine j_region ?_
  refine jg_os _ rfl (op_box (.tv (.base rfl)) rfl rfl rfl) ?_
  refine jg_adr _ rfl _ rfl rfl (op_assign (.base rfl)) ?_
  refine jg_nil ?_
  refine jn_keep [0, 3] [3] (.cons rfl (.cons rfl .nil)) (.cons rfl .nil) ?_
  refine jn_seq (j_seq ?_)
  refine j_region ?_
  refine jg_adr _ rfl _ rfl rfl (op_assign (.base rfl)) ?_
  refine jg_nil ?_
  refine jn_keep [0, 3, 5] [3] (.cons rfl (.cons rfl (.cons rfl .nil))) (.cons rfl .nil) ?_
  refine jn_seq (j_seq (j_seq ?_))
  refine j_region ?_
  refine jg_adr _ rfl _ rfl rfl (op_assign (.base rfl)) ?_
  refine jg_nil ?_
  refine jn_keep [0, 3, 5, 6] [3] (.cons rfl (.cons rfl (.cons rfl (.cons rfl .nil)))) (.cons rfl .nil) ?_
  refine jn_seq (j_block ?_)
  refine j_vac 70 5 rDateRange rfl rfl rfl ?_
  refine j_loopp (ι := Nat) (fun k => ⟨[(0, .tv (rSlice rDateRange) l), (3, .optr 3 rDateRange.n 0 0), (5, .own 70 rDateRange.n 0 (pAt l r k).1.length), (6, .raw (.int .i64 ((k : Nat))))], [(3, ⟨rDateRange, [(pAt l r k).2]⟩), (70, ⟨rDateRange, (pAt l r k).1⟩)]⟩) (fun k => k ≤ l.length) (fun k => l.length - k) 0 (Nat.zero_le _) (fun a w hi => (Sub.inv ⟨(by repeat (first | exact SubS_nil | refine SubS_cons rfl (by first | rfl | (simp; done) | assumption) ?_)), (by repeat (first | exact SubH_nil | refine SubH_cons rfl (by first | rfl | (simp; done) | assumption) ?_))⟩ hi)) ?_
  rintro k hk
  have hpl := pAt_len (l := l) (r := r) (k := k)
  refine j_seq (j_seq ?_)
  refine j_region ?_
  refine jg_adr _ rfl _ rfl rfl (op_move (.base rfl)) ?_
  refine jg_adr _ rfl _ rfl rfl (op_move (.base rfl)) ?_
  refine jg_adr _ rfl _ rfl rfl (op_len Try.underlying22 (.base rfl)) ?_
  refine jg_adr _ rfl _ rfl rfl (op_lss (.base rfl) (.base rfl)) ?_
  refine jg_nil ?_
  refine jn_keep [0, 3, 5, 6, 11] [3, 70] (.cons rfl (.cons rfl (.cons rfl (.cons rfl (.cons rfl .nil))))) (.cons rfl (.cons rfl .nil)) ?_
  refine jn_seq ?_
  refine j_cond rfl (fun h3 => ?_) (fun h3 => ?_)
  · try simp at h3
    refine j_skip (jn_seq (j_seq (j_block (j_seq ?_))))
    refine j_draw mo (by kernel_rfl) (
      AS.cons _ _ rfl (ga_adr rfl rfl rfl (op_move (.base rfl))) (
        AS.cons _ _ rfl (ga_adr rfl rfl rfl (op_move (.base rfl))) (
        AS.cons _ _ rfl (ga_adr rfl rfl rfl (op_index Try.underlying22 ty24 (.base rfl) (.base rfl) rfl (List.getElem?_eq_getElem (by first | omega | (simp; done) | (simp; omega) | (simp at hg; omega))))) (
        AS.cons _ _ rfl (ga_adr rfl rfl rfl (op_field fld24_1 ln24_1 (.base rfl))) (
        AS.cons _ _ rfl (ga_adr rfl rfl rfl (op_load ty3 (.base rfl))) (
        AS.cons _ _ rfl (ga_adr rfl rfl rfl (op_ofield fld24_0 (.base rfl))) (
        AS.cons _ _ rfl (ga_adr rfl rfl rfl (op_oload ty3 (.base rfl) rfl rfl ln24_0)) (
        AS.cons _ _ rfl (ga_adr rfl rfl rfl (op_lss (.base rfl) (.base rfl))) (
        AS.nil))))))))) ?_
    refine jn_keep [0, 3, 5, 6, 21] [3, 70] (.cons rfl (.cons rfl (.cons rfl (.cons rfl (.cons rfl .nil))))) (.cons rfl (.cons rfl .nil)) ?_
    refine jn_seq ?_
    refine j_cond rfl (fun h5 => ?_) (fun h5 => ?_)
    · have hk' : k < l.length := by omega
      have hs := pA (r := r) hk' (by simpa using h5)
      refine j_region ?_
      refine jg_adr _ rfl _ rfl rfl (op_move (.base rfl)) ?_
      refine jg_adr _ rfl _ rfl rfl (op_move (.base rfl)) ?_
      refine jg_adr _ rfl _ rfl rfl (op_move (.base rfl)) ?_
      refine jg_adr _ rfl _ rfl rfl (op_index Try.underlying22 ty24 (.base rfl) (.base rfl) rfl (List.getElem?_eq_getElem (by first | omega | (simp; done) | (simp; omega) | (simp at hg; omega)))) ?_
      refine jg_adr _ rfl _ rfl rfl (op_load ty24 (.base rfl)) ?_
      refine jg_adr _ rfl _ rfl rfl (op_bslice (rt := rDateRange) Try.underlying22 ty24 z24 rfl (.cons (.tv (.base rfl)) .nil) rfl rfl) ?_
      refine jg_os _ rfl (op_append [0, 3, 6] Try.underlying22 ty24 z24 rfl by24 (.base rfl) rfl (by (try simp); try omega) (.tv (.base rfl)) (by unfold maxLen; (try simp); try omega) (by (try simp); try omega) rfl (.cons rfl (.cons rfl (.cons rfl .nil))) rfl) ?_
      refine jg_adr _ rfl _ rfl rfl (op_assign (.base rfl)) ?_
      refine jg_nil ?_
      refine jn_keep [0, 3, 5, 6] [3, 70] (.cons rfl (.cons rfl (.cons rfl (.cons rfl .nil)))) (.cons rfl (.cons rfl .nil)) ?_
      refine jn_blk (jn_seq ?_)
      refine j_region ?_
      refine jg_adr _ rfl _ rfl rfl (op_move (.base rfl)) ?_
      refine jg_adr _ rfl _ rfl rfl (op_add (.base rfl) (.base rfl) (w64 (by omega))) ?_
      refine jg_adr _ rfl _ rfl rfl (op_assign (.base rfl)) ?_
      refine jg_nil ?_
      refine jn_keep [0, 3, 5, 6] [3, 70] (.cons rfl (.cons rfl (.cons rfl (.cons rfl .nil)))) (.cons rfl (.cons rfl .nil)) ?_
      exact jn_loop (fun a w hi => ⟨k + 1, (by omega), (by omega), Sub.inv ⟨(by repeat (first | exact SubS_nil | refine SubS_cons rfl (by first | rfl | exact congrArg (SV.own 70 rDateRange.n 0) (by rw [hs.1]; try simp; try omega)) ?_)), (by repeat (first | exact SubH_nil | refine SubH_cons rfl (by first | rfl | (refine congrArg (HB.mk rDateRange) ?_; rw [hs.1]; try (simp only [List.drop_zero, List.take_of_length_le (Nat.le_refl _)]); first | done | rfl | (simp; done)) | (refine congrArg (HB.mk rDateRange) ?_; rw [hs.2]; try (simp only [List.drop_zero, List.take_of_length_le (Nat.le_refl _)]); first | done | rfl | (simp; done))) ?_))⟩ hi⟩)
    · have hk' : k < l.length := by omega
      have h5' : ¬ l[k].2 < (pAt l r k).2.1 := by simpa using h5
      refine j_seq ?_
      refine j_draw mo (by kernel_rfl) (
        AS.cons _ _ rfl (ga_adr rfl rfl rfl (op_move (.base rfl))) (
          AS.cons _ _ rfl (ga_adr rfl rfl rfl (op_move (.base rfl))) (
          AS.cons _ _ rfl (ga_adr rfl rfl rfl (op_index Try.underlying22 ty24 (.base rfl) (.base rfl) rfl (List.getElem?_eq_getElem (by first | omega | (simp; done) | (simp; omega) | (simp at hg; omega))))) (
          AS.cons _ _ rfl (ga_adr rfl rfl rfl (op_field fld24_0 ln24_0 (.base rfl))) (
          AS.cons _ _ rfl (ga_adr rfl rfl rfl (op_load ty3 (.base rfl))) (
          AS.cons _ _ rfl (ga_adr rfl rfl rfl (op_ofield fld24_1 (.base rfl))) (
          AS.cons _ _ rfl (ga_adr rfl rfl rfl (op_oload ty3 (.base rfl) rfl rfl ln24_1)) (
          AS.cons _ _ rfl (ga_adr rfl rfl rfl (op_leq (.base rfl) (.base rfl))) (
          AS.nil))))))))) ?_
      refine jn_keep [0, 3, 5, 6, 36] [3, 70] (.cons rfl (.cons rfl (.cons rfl (.cons rfl (.cons rfl .nil))))) (.cons rfl (.cons rfl .nil)) ?_
      refine jn_seq ?_
      refine j_cond rfl (fun h7 => ?_) (fun h7 => ?_)
      · have hs := pB (r := r) hk' h5' (by simpa using h7)
        refine j_drawE mo (by kernel_rfl) (
          AE.cons _ _ _ rfl (gh_ga [3] (ga_adr rfl rfl rfl (op_ofield fld24_0 (.base rfl))) (by kernel_rfl)) (
          AE.cons _ _ _ rfl (gh_ga [3] (ga_adr rfl rfl rfl (op_oload ty3 (.base rfl) rfl rfl ln24_0)) (by kernel_rfl)) (
          AE.cons _ _ _ rfl (gh_ga [] (ga_adr rfl rfl rfl (op_move (.base rfl))) (by kernel_rfl)) (
          AE.cons _ _ _ rfl (gh_ga [] (ga_adr rfl rfl rfl (op_move (.base rfl))) (by kernel_rfl)) (
          AE.cons _ _ _ rfl (gh_ga [] (ga_adr rfl rfl rfl (op_index Try.underlying22 ty24 (.base rfl) (.base rfl) rfl (List.getElem?_eq_getElem (by first | omega | (simp; done) | (simp; omega) | (simp at hg; omega))))) (by kernel_rfl)) (
          AE.cons _ _ _ rfl (gh_ga [] (ga_adr rfl rfl rfl (op_field fld24_0 ln24_0 (.base rfl))) (by kernel_rfl)) (
          AE.cons _ _ _ rfl (gh_ga [] (ga_adr rfl rfl rfl (op_load ty3 (.base rfl))) (by kernel_rfl)) (
          AE.cons _ _ _ rfl (gh_ga [] (ga_adr rfl rfl rfl (op_min (.base rfl) (.base rfl))) (by kernel_rfl)) (
          AE.cons _ _ _ rfl (gh_ga [3] (ga_adr rfl rfl rfl (op_ofield fld24_1 (.base rfl))) (by kernel_rfl)) (
          AE.cons _ _ _ rfl (gh_ga [3] (ga_adr rfl rfl rfl (op_oload ty3 (.base rfl) rfl rfl ln24_1)) (by kernel_rfl)) (
          AE.cons _ _ _ rfl (gh_ga [] (ga_adr rfl rfl rfl (op_move (.base rfl))) (by kernel_rfl)) (
          AE.cons _ _ _ rfl (gh_ga [] (ga_adr rfl rfl rfl (op_move (.base rfl))) (by kernel_rfl)) (
          AE.cons _ _ _ rfl (gh_ga [] (ga_adr rfl rfl rfl (op_index Try.underlying22 ty24 (.base rfl) (.base rfl) rfl (List.getElem?_eq_getElem (by first | omega | (simp; done) | (simp; omega) | (simp at hg; omega))))) (by kernel_rfl)) (
          AE.cons _ _ _ rfl (gh_ga [] (ga_adr rfl rfl rfl (op_field fld24_1 ln24_1 (.base rfl))) (by kernel_rfl)) (
          AE.cons _ _ _ rfl (gh_ga [] (ga_adr rfl rfl rfl (op_load ty3 (.base rfl))) (by kernel_rfl)) (
          AE.cons _ _ _ rfl (gh_ga [] (ga_adr rfl rfl rfl (op_max (.base rfl) (.base rfl))) (by kernel_rfl)) (
          AE.cons _ _ _ rfl (gh_ga [] (ga_adr rfl rfl rfl (op_build z24 rfl pl24 (.cons (rt' := (rInt .i64)) rfl ln24_0 (.raw (.base rfl) rfl) (.cons (rt' := (rInt .i64)) rfl ln24_1 (.raw (.base rfl) rfl) .nil)))) (by kernel_rfl)) (
          AE.cons _ _ _ rfl (gh_store ty24 (.base rfl) rfl rfl (Lens.id _) (.tv (.base rfl))) (
          AE.nil))))))))))))))))))) (by kernel_rfl) ?_
        refine jn_keep [0, 3, 5, 6] [3, 70] (.cons rfl (.cons rfl (.cons rfl (.cons rfl .nil)))) (.cons rfl (.cons rfl .nil)) ?_
        refine jn_blk (jn_seq ?_)
        refine j_region ?_
        refine jg_adr _ rfl _ rfl rfl (op_move (.base rfl)) ?_
        refine jg_adr _ rfl _ rfl rfl (op_add (.base rfl) (.base rfl) (w64 (by omega))) ?_
        refine jg_adr _ rfl _ rfl rfl (op_assign (.base rfl)) ?_
        refine jg_nil ?_
        refine jn_keep [0, 3, 5, 6] [3, 70] (.cons rfl (.cons rfl (.cons rfl (.cons rfl .nil)))) (.cons rfl (.cons rfl .nil)) ?_
        exact jn_loop (fun a w hi => ⟨k + 1, (by omega), (by omega), Sub.inv ⟨(by repeat (first | exact SubS_nil | refine SubS_cons rfl (by first | rfl | exact congrArg (SV.own 70 rDateRange.n 0) (by rw [hs.1]; try simp; try omega)) ?_)), (by repeat (first | exact SubH_nil | refine SubH_cons rfl (by first | rfl | (refine congrArg (HB.mk rDateRange) ?_; rw [hs.1]; try (simp only [List.drop_zero, List.take_of_length_le (Nat.le_refl _)]); first | done | rfl | (simp; done)) | (refine congrArg (HB.mk rDateRange) ?_; rw [hs.2]; try (simp only [List.drop_zero, List.take_of_length_le (Nat.le_refl _)]); first | done | rfl | (simp; done))) ?_))⟩ hi⟩)
      · have hs := pC (r := r) hk' h5' (by simpa using h7)
        refine j_skip (jn_blk (jn_seq ?_))
        refine j_region ?_
        refine jg_adr _ rfl _ rfl rfl (op_move (.base rfl)) ?_
        refine jg_adr _ rfl _ rfl rfl (op_add (.base rfl) (.base rfl) (w64 (by omega))) ?_
        refine jg_adr _ rfl _ rfl rfl (op_assign (.base rfl)) ?_
        refine jg_nil ?_
        refine jn_keep [0, 3, 5, 6] [3, 70] (.cons rfl (.cons rfl (.cons rfl (.cons rfl .nil)))) (.cons rfl (.cons rfl .nil)) ?_
        exact jn_loop (fun a w hi => ⟨k + 1, (by omega), (by omega), Sub.inv ⟨(by repeat (first | exact SubS_nil | refine SubS_cons rfl (by first | rfl | exact congrArg (SV.own 70 rDateRange.n 0) (by rw [hs.1]; try simp; try omega)) ?_)), (by repeat (first | exact SubH_nil | refine SubH_cons rfl (by first | rfl | (refine congrArg (HB.mk rDateRange) ?_; rw [hs.1]; try (simp only [List.drop_zero, List.take_of_length_le (Nat.le_refl _)]); first | done | rfl | (simp; done)) | (refine congrArg (HB.mk rDateRange) ?_; rw [hs.2]; try (simp only [List.drop_zero, List.take_of_length_le (Nat.le_refl _)]); first | done | rfl | (simp; done))) ?_))⟩ hi⟩)
  · try simp at h3
    refine j_exit (je_seq (je_loop (je_blk (jn_seq (j_seq ?_)))))
    have hkk : k = l.length := by omega
    subst hkk
    rw [pAt_end]
    rw [pAt_end] at hpl
    refine j_region ?_
    refine jg_adr _ rfl _ rfl rfl (op_move (.base rfl)) ?_
    refine jg_adr _ rfl _ rfl rfl (op_oload ty24 (.base rfl) rfl rfl (Lens.id _)) ?_
    refine jg_adr _ rfl _ rfl rfl (op_bslice (rt := rDateRange) Try.underlying22 ty24 z24 rfl (.cons (.tv (.base rfl)) .nil) rfl rfl) ?_
    refine jg_os _ rfl (op_append [0, 3] Try.underlying22 ty24 z24 rfl by24 (.base rfl) rfl (by (try simp); try omega) (.tv (.base rfl)) (by unfold maxLen; (try simp); try omega) (by (try simp); try omega) rfl (.cons rfl (.cons rfl .nil)) rfl) ?_
    refine jg_adr _ rfl _ rfl rfl (op_assign (.base rfl)) ?_
    refine jg_nil ?_
    refine jn_keep [0, 3, 5] [3, 70] (.cons rfl (.cons rfl (.cons rfl .nil))) (.cons rfl (.cons rfl .nil)) ?_
    refine jn_seq (j_seq (j_seq ?_))
    refine j_region ?_
    refine jg_adr _ rfl _ rfl rfl (op_assign (.base rfl)) ?_
    refine jg_nil ?_
    refine jn_keep [0, 3, 5, 7] [3, 70] (.cons rfl (.cons rfl (.cons rfl (.cons rfl .nil)))) (.cons rfl (.cons rfl .nil)) ?_
    refine jn_seq (j_block ?_)
    refine j_loopp (ι := Nat) (fun j => ⟨[(0, .tv (rSlice rDateRange) l), (3, .optr 3 rDateRange.n 0 0), (5, .own 70 rDateRange.n 0 ((put1 l r).1 ++ [(put1 l r).2] ++ (l.take j).filter (fun x => decide ((put1 l r).2.2 < x.1))).length), (7, .raw (.int .i64 ((j : Nat))))], [(3, ⟨rDateRange, [(put1 l r).2]⟩), (70, ⟨rDateRange, ((put1 l r).1 ++ [(put1 l r).2] ++ (l.take j).filter (fun x => decide ((put1 l r).2.2 < x.1)))⟩)]⟩) (fun j => j ≤ l.length) (fun j => l.length - j) 0 (Nat.zero_le _) (fun a w hi => (Sub.inv ⟨(by repeat (first | exact SubS_nil | refine SubS_cons rfl (by first | rfl | exact congrArg (SV.own 70 rDateRange.n 0) (by simp)) ?_)), (by repeat (first | exact SubH_nil | refine SubH_cons rfl (by first | rfl | (refine congrArg (HB.mk rDateRange) ?_; simp; done)) ?_))⟩ hi)) ?_
    rintro j hj
    have hfl := flt_len (p := fun x => decide ((put1 l r).2.2 < x.1)) (l := l) (k := j)
    have hsum : ((put1 l r).1 ++ [(put1 l r).2] ++ (l.take j).filter (fun x => decide ((put1 l r).2.2 < x.1))).length ≤ 2 * l.length + 1 := by simp only [List.length_append, List.length_cons, List.length_nil]; omega
    refine j_seq (j_seq ?_)
    refine j_region ?_
    refine jg_adr _ rfl _ rfl rfl (op_move (.base rfl)) ?_
    refine jg_adr _ rfl _ rfl rfl (op_move (.base rfl)) ?_
    refine jg_adr _ rfl _ rfl rfl (op_len Try.underlying22 (.base rfl)) ?_
    refine jg_adr _ rfl _ rfl rfl (op_lss (.base rfl) (.base rfl)) ?_
    refine jg_nil ?_
    refine jn_keep [0, 3, 5, 7, 61] [3, 70] (.cons rfl (.cons rfl (.cons rfl (.cons rfl (.cons rfl .nil))))) (.cons rfl (.cons rfl .nil)) ?_
    refine jn_seq ?_
    refine j_cond rfl (fun h11 => ?_) (fun h11 => ?_)
    · try simp at h11
      refine j_skip (jn_seq (j_seq (j_block (j_seq ?_))))
      refine j_draw mo (by kernel_rfl) (
        AS.cons _ _ rfl (ga_adr rfl rfl rfl (op_move (.base rfl))) (
          AS.cons _ _ rfl (ga_adr rfl rfl rfl (op_move (.base rfl))) (
          AS.cons _ _ rfl (ga_adr rfl rfl rfl (op_index Try.underlying22 ty24 (.base rfl) (.base rfl) rfl (List.getElem?_eq_getElem (by first | omega | (simp; done) | (simp; omega) | (simp at hg; omega))))) (
          AS.cons _ _ rfl (ga_adr rfl rfl rfl (op_field fld24_0 ln24_0 (.base rfl))) (
          AS.cons _ _ rfl (ga_adr rfl rfl rfl (op_load ty3 (.base rfl))) (
          AS.cons _ _ rfl (ga_adr rfl rfl rfl (op_ofield fld24_1 (.base rfl))) (
          AS.cons _ _ rfl (ga_adr rfl rfl rfl (op_oload ty3 (.base rfl) rfl rfl ln24_1)) (
          AS.cons _ _ rfl (ga_adr rfl rfl rfl (op_gtr (.base rfl) (.base rfl))) (
          AS.nil))))))))) ?_
      refine jn_keep [0, 3, 5, 7, 71] [3, 70] (.cons rfl (.cons rfl (.cons rfl (.cons rfl (.cons rfl .nil))))) (.cons rfl (.cons rfl .nil)) ?_
      refine jn_seq ?_
      refine j_cond rfl (fun h13 => ?_) (fun h13 => ?_)
      · have hc := flt_t (p := fun x => decide ((put1 l r).2.2 < x.1)) (l := l) (k := j) (by omega) (by simpa using h13)
        refine j_region ?_
        refine jg_adr _ rfl _ rfl rfl (op_move (.base rfl)) ?_
        refine jg_adr _ rfl _ rfl rfl (op_move (.base rfl)) ?_
        refine jg_adr _ rfl _ rfl rfl (op_move (.base rfl)) ?_
        refine jg_adr _ rfl _ rfl rfl (op_index Try.underlying22 ty24 (.base rfl) (.base rfl) rfl (List.getElem?_eq_getElem (by first | omega | (simp; done) | (simp; omega) | (simp at hg; omega)))) ?_
        refine jg_adr _ rfl _ rfl rfl (op_load ty24 (.base rfl)) ?_
        refine jg_adr _ rfl _ rfl rfl (op_bslice (rt := rDateRange) Try.underlying22 ty24 z24 rfl (.cons (.tv (.base rfl)) .nil) rfl rfl) ?_
        refine jg_os _ rfl (op_append [0, 3, 7] Try.underlying22 ty24 z24 rfl by24 (.base rfl) rfl (by (try simp); try omega) (.tv (.base rfl)) (by unfold maxLen; (try simp); try omega) (by (try simp); try omega) rfl (.cons rfl (.cons rfl (.cons rfl .nil))) rfl) ?_
        refine jg_adr _ rfl _ rfl rfl (op_assign (.base rfl)) ?_
        refine jg_nil ?_
        refine jn_keep [0, 3, 5, 7] [3, 70] (.cons rfl (.cons rfl (.cons rfl (.cons rfl .nil)))) (.cons rfl (.cons rfl .nil)) ?_
        refine jn_blk (jn_seq ?_)
        refine j_region ?_
        refine jg_adr _ rfl _ rfl rfl (op_move (.base rfl)) ?_
        refine jg_adr _ rfl _ rfl rfl (op_add (.base rfl) (.base rfl) (w64 (by omega))) ?_
        refine jg_adr _ rfl _ rfl rfl (op_assign (.base rfl)) ?_
        refine jg_nil ?_
        refine jn_keep [0, 3, 5, 7] [3, 70] (.cons rfl (.cons rfl (.cons rfl (.cons rfl .nil)))) (.cons rfl (.cons rfl .nil)) ?_
        exact jn_loop (fun a w hi => ⟨j + 1, (by omega), (by omega), Sub.inv ⟨(by repeat (first | exact SubS_nil | refine SubS_cons rfl (by first | rfl | exact congrArg (SV.own 70 rDateRange.n 0) (by rw [hc]; try simp; try omega)) ?_)), (by repeat (first | exact SubH_nil | refine SubH_cons rfl (by first | rfl | (refine congrArg (HB.mk rDateRange) ?_; rw [hc]; try (simp only [List.drop_zero, List.take_of_length_le (Nat.le_refl _)]); first | done | rfl | (simp; done))) ?_))⟩ hi⟩)
      · have hc := flt_f (p := fun x => decide ((put1 l r).2.2 < x.1)) (l := l) (k := j) (by omega) (by simpa using h13)
        refine j_skip (jn_blk (jn_seq ?_))
        refine j_region ?_
        refine jg_adr _ rfl _ rfl rfl (op_move (.base rfl)) ?_
        refine jg_adr _ rfl _ rfl rfl (op_add (.base rfl) (.base rfl) (w64 (by omega))) ?_
        refine jg_adr _ rfl _ rfl rfl (op_assign (.base rfl)) ?_
        refine jg_nil ?_
        refine jn_keep [0, 3, 5, 7] [3, 70] (.cons rfl (.cons rfl (.cons rfl (.cons rfl .nil)))) (.cons rfl (.cons rfl .nil)) ?_
        exact jn_loop (fun a w hi => ⟨j + 1, (by omega), (by omega), Sub.inv ⟨(by repeat (first | exact SubS_nil | refine SubS_cons rfl (by first | rfl | exact congrArg (SV.own 70 rDateRange.n 0) (by rw [hc]; try simp; try omega)) ?_)), (by repeat (first | exact SubH_nil | refine SubH_cons rfl (by first | rfl | (refine congrArg (HB.mk rDateRange) ?_; rw [hc]; try (simp only [List.drop_zero, List.take_of_length_le (Nat.le_refl _)]); first | done | rfl | (simp; done))) ?_))⟩ hi⟩)
    · try simp at h11
      refine j_exit (je_seq (je_loop (je_blk (jn_seq (j_seq ?_)))))
      refine j_region ?_
      refine jg_adr _ rfl _ rfl rfl (op_move (.base rfl)) ?_
      refine jg_adr _ rfl _ rfl rfl (op_assign (.base rfl)) ?_
      refine jg_nil ?_
      refine jn_keep [4] [70] (.cons rfl .nil) (.cons rfl .nil) ?_
      refine jn_seq (j_ret ?_)
      refine jr_seal (rt := rDateRange) 70 4 (dropH 70 _) rfl rfl (by simp) (dropH_sub 70 _) (dropH_no 70 _) ?_
      exact jr_fin1 Try.results34 (res_tmp rfl) rfl (congrArg (SV.tv (rSlice rDateRange)) (by have : j = l.length := (by omega); subst this; rw [List.drop_zero, List.take_of_length_le (Nat.le_refl _), List.take_of_length_le (Nat.le_refl l.length)]; rfl))

end Go.Proofs.Ytnfdimmbpcgkpaa
