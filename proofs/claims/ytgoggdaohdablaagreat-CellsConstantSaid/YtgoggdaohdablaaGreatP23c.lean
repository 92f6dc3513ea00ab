import Derived.Test.YtgoggdaohdablaaGreatP23b
namespace Go.Proofs.YtgoggdaohdablaaGreat
open Go.Eng
set_option maxRecDepth 100000
set_option maxHeartbeats 4000000
set_option linter.unusedVariables false
set_option linter.unusedSimpArgs false


def locK (l : List Int) (n : Int) : Nat → Int
  | 0 => -1
  | k + 1 => if l[k]?.getD 0 ≤ n then (k : Int) else locK l n k
def locateF (l : List Int) (n : Int) : Int := locK l n l.length
theorem locK_t {l : List Int} {n : Int} {k : Nat} (hk : k < l.length) (h : l[k] ≤ n) : locK l n (k + 1) = k := by rw [locK, List.getElem?_eq_getElem hk, Option.getD_some, if_pos h]
theorem locK_f {l : List Int} {n : Int} {k : Nat} (hk : k < l.length) (h : ¬ l[k] ≤ n) : locK l n (k + 1) = locK l n k := by rw [locK, List.getElem?_eq_getElem hk, Option.getD_some, if_neg h]
def cntK (r : List (List Int)) : Nat → Int
  | 0 => 1
  | k + 1 => if cntK r k ≤ 4096 then cntK r k * ((r[k]?.getD []).length : Int) else cntK r k
def countF (r : List (List Int)) : Int := if r.any (fun x => x.length == 0) = true then 0 else if 4097 < cntK r r.length then 4097 else cntK r r.length
theorem cnt_t {r : List (List Int)} {k : Nat} (hk : k < r.length) (h : cntK r k ≤ 4096) : cntK r (k + 1) = cntK r k * (r[k].length : Int) := by rw [cntK, List.getElem?_eq_getElem hk, Option.getD_some, if_pos h]
theorem cnt_f {r : List (List Int)} {k : Nat} (h : ¬ cntK r k ≤ 4096) : cntK r (k + 1) = cntK r k := by rw [cntK, if_neg h]
theorem cnt_stop {r : List (List Int)} {k : Nat} (h : ¬ cntK r k ≤ 4096) : ∀ j, cntK r (k + j) = cntK r k
  | 0 => rfl
  | j + 1 => by rw [← Nat.add_assoc, cnt_f (by rw [cnt_stop h j]; exact h), cnt_stop h j]
theorem cnt_bound {r : List (List Int)} (hl : ∀ x ∈ r, x.length ≤ 100000) : ∀ k, 0 ≤ cntK r k ∧ cntK r k ≤ 409600000
  | 0 => by simp [cntK]
  | k + 1 => by
    have ih := cnt_bound hl k
    have hx : ((r[k]?.getD []).length : Int) ≤ 100000 := by
      cases h : r[k]? with
      | none => simp
      | some x => have := hl x (List.mem_of_getElem? h); simp; omega
    rw [cntK]; split
    · rename_i h
      have h0 : (0 : Int) ≤ ((r[k]?.getD []).length : Int) := Int.natCast_nonneg _
      exact ⟨Int.mul_nonneg ih.1 h0, Int.le_trans (Int.mul_le_mul h hx h0 (by omega)) (by omega)⟩
    · exact ih
theorem any_f {r : List (List Int)} (h : ∀ i (hi : i < r.length), r[i].length ≠ 0) : r.any (fun x => x.length == 0) = false := by
  refine List.any_eq_false.2 fun x hx => ?_
  obtain ⟨i, hi, rfl⟩ := List.mem_iff_getElem.1 hx
  simpa using h i hi
theorem any_t {r : List (List Int)} {k : Nat} (hk : k < r.length) (h : r[k].length = 0) : countF r = 0 := by
  unfold countF
  rw [if_pos (List.any_eq_true.2 ⟨r[k], List.getElem_mem _, by simpa using h⟩)]
theorem count_of {r : List (List Int)} (h : ∀ i (hi : i < r.length), r[i].length ≠ 0) : countF r = if 4097 < cntK r r.length then 4097 else cntK r r.length := by
  unfold countF; rw [any_f h, if_neg (by simp)]
def ins5 (l : List Int) (n : Int) : List Int := l.filter (fun y => decide (y < n)) ++ [n] ++ l.filter (fun y => decide (n < y))
theorem ins5_uniqS (l : List Int) (n : Int) : ins5 (uniqS l) n = uniqS (l ++ [n]) := by
  obtain ⟨h1, h2⟩ := uniqS_ok l
  refine (uniqS_eq ?_ fun x => ?_).symm
  · unfold ins5
    refine List.pairwise_append.2 ⟨List.pairwise_append.2 ⟨h1.filter _, by simp, fun a ha b hb => ?_⟩, h1.filter _, fun a ha b hb => ?_⟩
    · obtain rfl := List.mem_singleton.1 hb; simpa using (List.mem_filter.1 ha).2
    · have hb := (List.mem_filter.1 hb).2
      simp only [decide_eq_true_eq] at hb
      rcases List.mem_append.1 ha with ha | ha
      · have := (List.mem_filter.1 ha).2; simp only [decide_eq_true_eq] at this; omega
      · obtain rfl := List.mem_singleton.1 ha; exact hb
  · unfold ins5
    simp only [List.mem_append, List.mem_filter, h2, List.mem_singleton, decide_eq_true_eq]
    constructor
    · rintro ((⟨h, _⟩ | h) | ⟨h, _⟩)
      · exact .inl h
      · exact .inr h
      · exact .inl h
    · rintro (h | h)
      · rcases Int.lt_trichotomy x n with q | q | q
        · exact .inl (.inl ⟨h, q⟩)
        · exact .inl (.inr q)
        · exact .inr ⟨h, q⟩
      · exact .inl (.inr h)
theorem filt_t {p : Int → Bool} {l : List Int} {k : Nat} (hk : k < l.length) (h : p l[k] = true) : (l.take (k + 1)).filter p = (l.take k).filter p ++ [l[k]] := by rw [← List.take_append_getElem hk, List.filter_append]; simp [h]
theorem filt_f {p : Int → Bool} {l : List Int} {k : Nat} (hk : k < l.length) (h : p l[k] = false) : (l.take (k + 1)).filter p = (l.take k).filter p := by rw [← List.take_append_getElem hk, List.filter_append]; simp [h]
theorem filt_len {p : Int → Bool} {l : List Int} {k : Nat} : ((l.take k).filter p).length ≤ l.length := Nat.le_trans (List.length_filter_le _ _) (by simp; omega)

theorem locate_ok (l : List Int) (n : Int) : Ct Tryz.prog 11 [.tv (rSlice (rInt .i64)) l, .raw (.int .i64 n)] (.raw (.int .i64 (locateF l n))) := by
  refine ct_intro Tryz.func11 rfl rfl Tryz.ntmps11 rfl rfl ?_
  intro w0 ok0
  refine j_len 0 rfl (fun hl0 => ?_)
  refine j_seq ?_
  refine j_region ?_
  refine jg_adr _ rfl _ rfl rfl (op_assign (.base rfl)) ?_
  refine jg_nil ?_
  refine jn_keep [0, 1] [] (.cons rfl (.cons rfl .nil)) .nil ?_
  refine jn_seq (j_seq (j_seq ?_))
  refine j_region ?_
  refine jg_adr _ rfl _ rfl rfl (op_move (.base rfl)) ?_
  refine jg_adr _ rfl _ rfl rfl (op_len Tryz.underlying28 (.base rfl)) ?_
  refine jg_adr _ rfl _ rfl rfl (op_sub (.base rfl) (.base rfl) (w64 (by omega))) ?_
  refine jg_adr _ rfl _ rfl rfl (op_assign (.base rfl)) ?_
  refine jg_nil ?_
  refine jn_keep [0, 1, 5] [] (.cons rfl (.cons rfl (.cons rfl .nil))) .nil ?_
  refine jn_seq (j_block ?_)
  refine j_loopp (ι := Nat) (fun k => ⟨[(0, .tv (rSlice (rInt .i64)) l), (1, .raw (.int .i64 (n))), (5, .raw (.int .i64 ((k : Nat) - 1)))], []⟩) (fun k => k ≤ l.length ∧ locK l n k = locateF l n) (fun k => k) l.length (⟨Nat.le_refl _, rfl⟩) (fun a w hi => (Sub.inv ⟨(by repeat (first | exact SubS_nil | refine SubS_cons rfl (by first | rfl | (simp; done) | assumption) ?_)), (by repeat (first | exact SubH_nil | refine SubH_cons rfl (by first | rfl | (simp; done) | assumption) ?_))⟩ hi)) ?_
  rintro k ⟨hk, hp⟩
  refine j_seq (j_seq ?_)
  refine j_region ?_
  refine jg_adr _ rfl _ rfl rfl (op_move (.base rfl)) ?_
  refine jg_adr _ rfl _ rfl rfl (op_geq (.base rfl) (.base rfl)) ?_
  refine jg_nil ?_
  refine jn_keep [0, 1, 5, 10] [] (.cons rfl (.cons rfl (.cons rfl (.cons rfl .nil)))) .nil ?_
  refine jn_seq ?_
  refine j_cond rfl (fun h2 => ?_) (fun h2 => ?_)
  · try simp at h2
    refine j_skip (jn_seq (j_seq (j_block (j_seq ?_))))
    have hk1 : (k : Int) - 1 = ((k - 1 : Nat) : Int) := by omega
    have hk3 : k - 1 < l.length := by omega
    have hk2 : k = (k - 1) + 1 := by omega
    refine j_region ?_
    refine jg_adr _ rfl _ rfl rfl (op_move (.base rfl)) ?_
    refine jg_adr _ rfl _ rfl rfl (op_move (.base rfl)) ?_
    refine jg_adr _ rfl _ rfl rfl (op_index Tryz.underlying28 ty3 (.base rfl) (.base rfl) hk1 (List.getElem?_eq_getElem (by first | omega | (simp; done) | (simp; omega) | (simp at hg; omega)))) ?_
    refine jg_adr _ rfl _ rfl rfl (op_load ty3 (.base rfl)) ?_
    refine jg_adr _ rfl _ rfl rfl (op_move (.base rfl)) ?_
    refine jg_adr _ rfl _ rfl rfl (op_leq (.base rfl) (.base rfl)) ?_
    refine jg_nil ?_
    refine jn_keep [0, 1, 5, 18] [] (.cons rfl (.cons rfl (.cons rfl (.cons rfl .nil)))) .nil ?_
    refine jn_seq ?_
    refine j_cond rfl (fun h4 => ?_) (fun h4 => ?_)
    · try simp at h4
      refine j_seq ?_
      refine j_region ?_
      refine jg_adr _ rfl _ rfl rfl (op_move (.base rfl)) ?_
      refine jg_adr _ rfl _ rfl rfl (op_assign (.base rfl)) ?_
      refine jg_nil ?_
      refine jn_keep [4] [] (.cons rfl .nil) .nil ?_
      refine jn_seq (j_ret (jr_blk (jr_seq (jr_loop (jr_blk (jr_seq ?_))))))
      exact jr_fin1 Tryz.results11 (res_tmp rfl) rfl (congrArg (fun z => SV.raw (.int .i64 z)) (by rw [← hp, hk2, locK_t hk3 h4]; omega))
    · try simp at h4
      refine j_skip (jn_blk (jn_seq ?_))
      refine j_region ?_
      refine jg_adr _ rfl _ rfl rfl (op_move (.base rfl)) ?_
      refine jg_adr _ rfl _ rfl rfl (op_sub (.base rfl) (.base rfl) (w64 (by omega))) ?_
      refine jg_adr _ rfl _ rfl rfl (op_assign (.base rfl)) ?_
      refine jg_nil ?_
      refine jn_keep [0, 1, 5] [] (.cons rfl (.cons rfl (.cons rfl .nil))) .nil ?_
      exact jn_loop (fun a w hi => ⟨k - 1, (by omega), ⟨by omega, by have e := locK_f hk3 (Int.not_le.2 h4); rw [← hk2] at e; rw [← hp, e]⟩, Sub.inv ⟨(by repeat (first | exact SubS_nil | refine SubS_cons rfl (by first | rfl | exact congrArg (fun z => SV.raw (.int .i64 z)) (by omega)) ?_)), (by repeat (first | exact SubH_nil | refine SubH_cons rfl (by first | rfl | (simp; done) | assumption) ?_))⟩ hi⟩)
  · try simp at h2
    refine j_exit (je_seq (je_loop (je_blk (jn_seq (j_seq ?_)))))
    refine j_region ?_
    refine jg_adr _ rfl _ rfl rfl (op_assign (.base rfl)) ?_
    refine jg_nil ?_
    refine jn_keep [4] [] (.cons rfl .nil) .nil ?_
    refine jn_seq (j_ret ?_)
    exact jr_fin1 Tryz.results11 (res_tmp rfl) rfl (congrArg (fun z => SV.raw (.int .i64 z)) (by have : k = 0 := (by omega); subst this; exact hp))


theorem count_ok (r : List (List Int)) (hl : ∀ x ∈ r, x.length ≤ 100000) : Ct Tryz.prog 18 [.tv (rSlice (rSlice (rInt .i64))) r] (.raw (.int .i64 (countF r))) := by
  refine ct_intro Tryz.func18 rfl rfl Tryz.ntmps18 rfl rfl ?_
  intro w0 ok0
  refine j_len 0 rfl (fun hl0 => ?_)
  refine j_seq ?_
  refine j_region ?_
  refine jg_adr _ rfl _ rfl rfl (op_assign (.base rfl)) ?_
  refine jg_nil ?_
  refine jn_keep [0] [] (.cons rfl .nil) .nil ?_
  refine jn_seq (j_seq ?_)
  refine j_region ?_
  refine jg_adr _ rfl _ rfl rfl (op_assign (.base rfl)) ?_
  refine jg_nil ?_
  refine jn_keep [0, 3] [] (.cons rfl (.cons rfl .nil)) .nil ?_
  refine jn_seq (j_seq (j_seq ?_))
  refine j_region ?_
  refine jg_adr _ rfl _ rfl rfl (op_move (.base rfl)) ?_
  refine jg_adr _ rfl _ rfl rfl (op_len Tryz.underlying62 (.base rfl)) ?_
  refine jg_adr _ rfl _ rfl rfl (op_move (.base rfl)) ?_
  refine jg_nil ?_
  refine jn_keep [3, 6, 7, 8] [] (.cons rfl (.cons rfl (.cons rfl (.cons rfl .nil)))) .nil ?_
  refine jn_seq (j_block ?_)
  refine j_loopp (ι := Nat) (fun k => ⟨[(3, .raw (.int .i64 (cntK r k))), (6, .tv (rSlice (rSlice (rInt .i64))) r), (7, .raw (.int .i64 (r.length))), (8, .raw (.int .i64 ((k : Nat))))], []⟩) (fun k => k ≤ r.length ∧ ∀ i, i < k → ∀ (hi : i < r.length), r[i].length ≠ 0) (fun k => r.length - k) 0 (⟨Nat.zero_le _, fun i hi => absurd hi (by omega)⟩) (fun a w hi => (Sub.inv ⟨(by repeat (first | exact SubS_nil | refine SubS_cons rfl (by first | rfl | (simp; done) | assumption) ?_)), (by repeat (first | exact SubH_nil | refine SubH_cons rfl (by first | rfl | (simp; done) | assumption) ?_))⟩ hi)) ?_
  rintro k ⟨hk, hp⟩
  have hb := cnt_bound hl k
  
  refine j_seq ?_
  refine j_region ?_
  refine jg_adr _ rfl _ rfl rfl (op_lss (.base rfl) (.base rfl)) ?_
  refine jg_nil ?_
  refine jn_keep [3, 6, 7, 8, 9] [] (.cons rfl (.cons rfl (.cons rfl (.cons rfl (.cons rfl .nil))))) .nil ?_
  refine jn_seq (j_seq ?_)
  refine j_cond rfl (fun h3 => ?_) (fun h3 => ?_)
  · try simp at h3
    refine j_skip (jn_seq (j_seq (j_block (j_seq ?_))))
    refine j_region ?_
    refine jg_adr _ rfl _ rfl rfl (op_index Tryz.underlying62 ty28 (.base rfl) (.base rfl) rfl (List.getElem?_eq_getElem (by first | omega | (simp; done) | (simp; omega) | (simp at hg; omega)))) ?_
    refine jg_adr _ rfl _ rfl rfl (op_load ty28 (.base rfl)) ?_
    refine jg_adr _ rfl _ rfl rfl (op_assign (.base rfl)) ?_
    refine jg_nil ?_
    refine jn_keep [3, 5, 6, 7, 8] [] (.cons rfl (.cons rfl (.cons rfl (.cons rfl (.cons rfl .nil))))) .nil ?_
    refine jn_seq (j_seq (j_seq ?_))
    refine j_region ?_
    refine jg_adr _ rfl _ rfl rfl (op_move (.base rfl)) ?_
    refine jg_adr _ rfl _ rfl rfl (op_len Tryz.underlying28 (.base rfl)) ?_
    refine jg_adr _ rfl _ rfl rfl (op_eql (.base rfl) (.base rfl)) ?_
    refine jg_nil ?_
    refine jn_keep [3, 5, 6, 7, 8, 14] [] (.cons rfl (.cons rfl (.cons rfl (.cons rfl (.cons rfl (.cons rfl .nil)))))) .nil ?_
    refine jn_seq ?_
    refine j_cond rfl (fun h5 => ?_) (fun h5 => ?_)
    · try simp at h5
      refine j_seq ?_
      refine j_region ?_
      refine jg_adr _ rfl _ rfl rfl (op_assign (.base rfl)) ?_
      refine jg_nil ?_
      refine jn_keep [2] [] (.cons rfl .nil) .nil ?_
      refine jn_seq (j_ret (jr_seq (jr_blk (jr_seq (jr_loop (jr_blk (jr_seq ?_)))))))
      exact jr_fin1 Tryz.results18 (res_tmp rfl) rfl (congrArg (fun z => SV.raw (.int .i64 z)) (by rw [any_t (k := k) (by omega) (by simpa using h5)]))
    · try simp at h5
      refine j_skip (jn_seq (j_seq ?_))
      refine j_region ?_
      refine jg_adr _ rfl _ rfl rfl (op_move (.base rfl)) ?_
      refine jg_adr _ rfl _ rfl rfl (op_leq (.base rfl) (.base rfl)) ?_
      refine jg_nil ?_
      refine jn_keep [3, 5, 6, 7, 8, 16] [] (.cons rfl (.cons rfl (.cons rfl (.cons rfl (.cons rfl (.cons rfl .nil)))))) .nil ?_
      refine jn_seq ?_
      refine j_cond rfl (fun h7 => ?_) (fun h7 => ?_)
      · try simp at h7
        have hlk : r[k].length ≤ 100000 := hl _ (List.getElem_mem _)
        have hmu : 0 ≤ cntK r k * (r[k].length : Int) ∧ cntK r k * (r[k].length : Int) ≤ 409600000 := by rw [← cnt_t (by omega) h7]; exact cnt_bound hl (k + 1)
        have hc := cnt_t (r := r) (k := k) (by omega) h7
        refine j_region ?_
        refine jg_adr _ rfl _ rfl rfl (op_move (.base rfl)) ?_
        refine jg_adr _ rfl _ rfl rfl (op_move (.base rfl)) ?_
        refine jg_adr _ rfl _ rfl rfl (op_len Tryz.underlying28 (.base rfl)) ?_
        refine jg_adr _ rfl _ rfl rfl (op_mul (.base rfl) (.base rfl) (w64 (by omega))) ?_
        refine jg_adr _ rfl _ rfl rfl (op_assign (.base rfl)) ?_
        refine jg_nil ?_
        refine jn_keep [3, 6, 7, 8] [] (.cons rfl (.cons rfl (.cons rfl (.cons rfl .nil)))) .nil ?_
        refine jn_blk (jn_seq ?_)
        refine j_region ?_
        refine jg_adr _ rfl _ rfl rfl (op_add (.base rfl) (.base rfl) (w64 (by omega))) ?_
        refine jg_adr _ rfl _ rfl rfl (op_move (.base rfl)) ?_
        refine jg_nil ?_
        refine jn_keep [3, 6, 7, 8] [] (.cons rfl (.cons rfl (.cons rfl (.cons rfl .nil)))) .nil ?_
        exact jn_loop (fun a w hi => ⟨k + 1, (by omega), ⟨by omega, fun i hi1 hi2 => by rcases Nat.lt_or_ge i k with q | q; exact hp i q hi2; have : i = k := (by omega); subst this; simpa using h5⟩, Sub.inv ⟨(by repeat (first | exact SubS_nil | refine SubS_cons rfl (by first | rfl | exact congrArg (fun z => SV.raw (.int .i64 z)) hc | exact congrArg (fun z => SV.raw (.int .i64 z)) hc.symm) ?_)), (by repeat (first | exact SubH_nil | refine SubH_cons rfl (by first | rfl | (simp; done) | assumption) ?_))⟩ hi⟩)
      · simp at h7
        have hc := cnt_f (r := r) (k := k) (by omega)
        refine j_skip (jn_blk (jn_seq ?_))
        refine j_region ?_
        refine jg_adr _ rfl _ rfl rfl (op_add (.base rfl) (.base rfl) (w64 (by omega))) ?_
        refine jg_adr _ rfl _ rfl rfl (op_move (.base rfl)) ?_
        refine jg_nil ?_
        refine jn_keep [3, 6, 7, 8] [] (.cons rfl (.cons rfl (.cons rfl (.cons rfl .nil)))) .nil ?_
        exact jn_loop (fun a w hi => ⟨k + 1, (by omega), ⟨by omega, fun i hi1 hi2 => by rcases Nat.lt_or_ge i k with q | q; exact hp i q hi2; have : i = k := (by omega); subst this; simpa using h5⟩, Sub.inv ⟨(by repeat (first | exact SubS_nil | refine SubS_cons rfl (by first | rfl | exact congrArg (fun z => SV.raw (.int .i64 z)) hc | exact congrArg (fun z => SV.raw (.int .i64 z)) hc.symm) ?_)), (by repeat (first | exact SubH_nil | refine SubH_cons rfl (by first | rfl | (simp; done) | assumption) ?_))⟩ hi⟩)
  · try simp at h3
    refine j_exit (je_seq (je_loop (je_blk (jn_seq (j_seq ?_)))))
    refine j_region ?_
    refine jg_adr _ rfl _ rfl rfl (op_move (.base rfl)) ?_
    refine jg_adr _ rfl _ rfl rfl (op_min (.base rfl) (.base rfl)) ?_
    refine jg_adr _ rfl _ rfl rfl (op_assign (.base rfl)) ?_
    refine jg_nil ?_
    refine jn_keep [2] [] (.cons rfl .nil) .nil ?_
    refine jn_seq (j_ret ?_)
    exact jr_fin1 Tryz.results18 (res_tmp rfl) rfl (congrArg (fun z => SV.raw (.int .i64 z)) (by have : k = r.length := (by omega); subst this; rw [count_of (fun i hi => hp i hi hi)]))



end Go.Proofs.YtgoggdaohdablaaGreat
