import Derived.Test.YtgoggdaohdablaaP23e
namespace Go.Proofs.Ytgoggdaohdablaa
open Go.Eng
set_option maxRecDepth 100000
set_option maxHeartbeats 4000000
set_option linter.unusedVariables false
set_option linter.unusedSimpArgs false


def fewF (e : List TNode) (s : TSignature) : Bool := !(decide (60 < (e.length : Int)) || decide (20 < (s.1.length : Int)) || decide (20 < (s.2.1.length : Int)) || decide (20 < (s.2.2.1.length : Int)) || decide (20 < (s.2.2.2.1.length : Int)) || decide (20 < (s.2.2.2.2.1.length : Int))) && s.1.all (fun x => !decide (40 < (x.2.length : Int)))
theorem few_mem {e : List TNode} {s : TSignature} (h : fewF e s = true) : ∀ x ∈ s.1, x.2.length ≤ 100000 := fun x hx => by
  unfold fewF at h
  have := List.all_eq_true.1 (Bool.and_eq_true_iff.1 h).2 x hx
  simp at this; omega
theorem locK_spec {l : List Int} {n : Int} : ∀ k, k ≤ l.length → (locK l n k = -1 ∧ ∀ j (hj : j < l.length), j < k → n < l[j]) ∨ ∃ K, ∃ hK : K < l.length, K < k ∧ locK l n k = (K : Int) ∧ l[K] ≤ n ∧ ∀ j (hj : j < l.length), K < j → j < k → n < l[j]
  | 0, _ => .inl ⟨rfl, fun j _ h => absurd h (by omega)⟩
  | k + 1, hk => by
    have hk' : k < l.length := by omega
    by_cases q : l[k] ≤ n
    · exact .inr ⟨k, hk', by omega, locK_t hk' q, q, fun j _ h1 h2 => absurd h1 (by omega)⟩
    · rw [locK_f hk' q]
      rcases locK_spec (l := l) (n := n) k (by omega) with ⟨h1, h2⟩ | ⟨K, hK, h1, h2, h3, h4⟩
      · refine .inl ⟨h1, fun j hj h => ?_⟩
        rcases Nat.lt_or_ge j k with r | r
        · exact h2 j hj r
        · have : j = k := by omega
          subst this; omega
      · refine .inr ⟨K, hK, by omega, h2, h3, fun j hj q1 q2 => ?_⟩
        rcases Nat.lt_or_ge j k with r | r
        · exact h4 j hj q1 r
        · have : j = k := by omega
          subst this; omega
theorem strict_head {l : List Int} {a : Int} (hs : l.Pairwise (· < ·)) (ha : a ∈ l) (hm : ∀ x ∈ l, a ≤ x) : ∃ h : 0 < l.length, l[0] = a := by
  cases l with
  | nil => simp at ha
  | cons b r =>
    refine ⟨by simp, ?_⟩
    have h1 := hm b (by simp)
    rcases List.mem_cons.1 ha with e | e
    · exact e.symm
    · have := (List.pairwise_cons.1 hs).1 a e; simp only [List.getElem_cons_zero]; omega
theorem reps_head {t : TType} {en : List TEnum} {cuts : List Int} (h : (bounds t en).1 ≤ (bounds t en).2) : ∃ h : 0 < (repsF t en cuts).length, (repsF t en cuts)[0] = (bounds t en).1 := by
  have hv : validType t en = true := bounds_valid (by omega)
  have hne : ¬ validType t en = false := by simp [hv]
  by_cases hk : t.1 = 1 ∨ t.1 = 6
  · have e : repsF t en cuts = rng (bounds t en).1 ((bounds t en).2 - (bounds t en).1 + 1).toNat := by unfold repsF; rw [if_neg hne, if_pos hk]
    rw [e]
    refine ⟨by rw [rng_len]; omega, ?_⟩
    simp [rng]
  · have e : repsF t en cuts = uniqS ([(bounds t en).1] ++ cuts.filter (inR (bounds t en).1 (bounds t en).2)) := by unfold repsF; rw [if_neg hne, if_neg hk]
    rw [e]
    obtain ⟨h1, h2⟩ := uniqS_ok ([(bounds t en).1] ++ cuts.filter (inR (bounds t en).1 (bounds t en).2))
    refine strict_head h1 ((h2 _).2 (by simp)) fun x hx => ?_
    rcases List.mem_append.1 ((h2 x).1 hx) with q | q
    · obtain rfl := List.mem_singleton.1 q; exact Int.le_refl _
    · have := (List.mem_filter.1 q).2; simp [inR] at this; exact this.1
theorem locate_spec {l : List Int} {n lo : Int} (h0 : ∃ h : 0 < l.length, l[0] = lo) (hn : lo ≤ n) : ∃ K : Nat, locateF l n = (K : Int) ∧ K < l.length ∧ l[K]?.getD 0 ≤ n ∧ (K + 1 = l.length ∨ n < l[K + 1]?.getD 0) := by
  obtain ⟨h0, h1⟩ := h0
  rcases locK_spec (l := l) (n := n) l.length (Nat.le_refl _) with ⟨_, h2⟩ | ⟨K, hK, _, h2, h3, h4⟩
  · have := h2 0 h0 h0; omega
  · refine ⟨K, h2, hK, by rw [List.getElem?_eq_getElem hK]; exact h3, ?_⟩
    by_cases q : K + 1 = l.length
    · exact .inl q
    · right
      have hK1 : K + 1 < l.length := by omega
      rw [List.getElem?_eq_getElem hK1]; exact h4 _ hK1 (by omega) hK1

theorem few_ok (e : List TNode) (s : TSignature) : Ct Try.prog 8 [.tv (rSlice rNode) e, .tv rSignature s] (.raw (.bool (fewF e s))) := by
  refine ct_intro Try.func8 rfl rfl Try.ntmps8 rfl rfl ?_
  intro w0 ok0
  refine j_seq ?_
  refine j_region ?_
  refine jg_os _ rfl (op_box (.tv (.base rfl)) rfl rfl rfl) ?_
  refine jg_adr _ rfl _ rfl rfl (op_assign (.base rfl)) ?_
  refine jg_nil ?_
  refine jn_keep [0, 3] [3] (.cons rfl (.cons rfl .nil)) (.cons rfl .nil) ?_
  refine jn_seq (j_seq (j_seq ?_))
  refine j_region ?_
  refine jg_adr _ rfl _ rfl rfl (op_move (.base rfl)) ?_
  refine jg_adr _ rfl _ rfl rfl (op_len Try.underlying22 (.base rfl)) ?_
  refine jg_adr _ rfl _ rfl rfl (op_gtr (.base rfl) (.base rfl)) ?_
  refine jg_adr _ rfl _ rfl rfl (op_move (.base rfl)) ?_
  refine jg_gd _ _ _ _ _ _ rfl rfl rfl rfl rfl (fun hg => op_ofield fld27_0 (.base rfl)) ?_
  refine jg_gd _ _ _ _ _ _ rfl rfl rfl rfl rfl (fun hg => op_oload ty23 (.gd rfl hg) rfl rfl ln27_0) ?_
  refine jg_gd _ _ _ _ _ _ rfl rfl rfl rfl rfl (fun hg => op_len Try.underlying23 (.gd rfl hg)) ?_
  refine jg_gd _ _ _ _ _ _ rfl rfl rfl rfl rfl (fun hg => op_gtr (.gd rfl hg) (.base rfl)) ?_
  refine jg_adr _ rfl _ rfl rfl (op_pick_or (.base rfl) (.base rfl) rfl (by intro h; first | (rw [h]; rfl) | simp_all)) ?_
  refine jg_adr _ rfl _ rfl rfl (op_move (.base rfl)) ?_
  refine jg_gd _ _ _ _ _ _ rfl rfl rfl rfl rfl (fun hg => op_ofield fld27_1 (.base rfl)) ?_
  refine jg_gd _ _ _ _ _ _ rfl rfl rfl rfl rfl (fun hg => op_oload ty24 (.gd rfl hg) rfl rfl ln27_1) ?_
  refine jg_gd _ _ _ _ _ _ rfl rfl rfl rfl rfl (fun hg => op_len Try.underlying24 (.gd rfl hg)) ?_
  refine jg_gd _ _ _ _ _ _ rfl rfl rfl rfl rfl (fun hg => op_gtr (.gd rfl hg) (.base rfl)) ?_
  refine jg_adr _ rfl _ rfl rfl (op_pick_or (.base rfl) (.base rfl) rfl (by intro h; first | (rw [h]; rfl) | simp_all)) ?_
  refine jg_adr _ rfl _ rfl rfl (op_move (.base rfl)) ?_
  refine jg_gd _ _ _ _ _ _ rfl rfl rfl rfl rfl (fun hg => op_ofield fld27_2 (.base rfl)) ?_
  refine jg_gd _ _ _ _ _ _ rfl rfl rfl rfl rfl (fun hg => op_oload ty25 (.gd rfl hg) rfl rfl ln27_2) ?_
  refine jg_gd _ _ _ _ _ _ rfl rfl rfl rfl rfl (fun hg => op_len Try.underlying25 (.gd rfl hg)) ?_
  refine jg_gd _ _ _ _ _ _ rfl rfl rfl rfl rfl (fun hg => op_gtr (.gd rfl hg) (.base rfl)) ?_
  refine jg_adr _ rfl _ rfl rfl (op_pick_or (.base rfl) (.base rfl) rfl (by intro h; first | (rw [h]; rfl) | simp_all)) ?_
  refine jg_adr _ rfl _ rfl rfl (op_move (.base rfl)) ?_
  refine jg_gd _ _ _ _ _ _ rfl rfl rfl rfl rfl (fun hg => op_ofield fld27_3 (.base rfl)) ?_
  refine jg_gd _ _ _ _ _ _ rfl rfl rfl rfl rfl (fun hg => op_oload ty25 (.gd rfl hg) rfl rfl ln27_3) ?_
  refine jg_gd _ _ _ _ _ _ rfl rfl rfl rfl rfl (fun hg => op_len Try.underlying25 (.gd rfl hg)) ?_
  refine jg_gd _ _ _ _ _ _ rfl rfl rfl rfl rfl (fun hg => op_gtr (.gd rfl hg) (.base rfl)) ?_
  refine jg_adr _ rfl _ rfl rfl (op_pick_or (.base rfl) (.base rfl) rfl (by intro h; first | (rw [h]; rfl) | simp_all)) ?_
  refine jg_adr _ rfl _ rfl rfl (op_move (.base rfl)) ?_
  refine jg_gd _ _ _ _ _ _ rfl rfl rfl rfl rfl (fun hg => op_ofield fld27_4 (.base rfl)) ?_
  refine jg_gd _ _ _ _ _ _ rfl rfl rfl rfl rfl (fun hg => op_oload ty25 (.gd rfl hg) rfl rfl ln27_4) ?_
  refine jg_gd _ _ _ _ _ _ rfl rfl rfl rfl rfl (fun hg => op_len Try.underlying25 (.gd rfl hg)) ?_
  refine jg_gd _ _ _ _ _ _ rfl rfl rfl rfl rfl (fun hg => op_gtr (.gd rfl hg) (.base rfl)) ?_
  refine jg_adr _ rfl _ rfl rfl (op_pick_or (.base rfl) (.base rfl) rfl (by intro h; first | (rw [h]; rfl) | simp_all)) ?_
  refine jg_nil ?_
  refine jn_keep [3, 38] [3] (.cons rfl (.cons rfl .nil)) (.cons rfl .nil) ?_
  refine jn_seq ?_
  refine j_cond rfl (fun h1 => ?_) (fun h1 => ?_)
  · try simp at h1
    refine j_seq ?_
    refine j_region ?_
    refine jg_adr _ rfl _ rfl rfl (op_assign (.base rfl)) ?_
    refine jg_nil ?_
    refine jn_keep [4] [] (.cons rfl .nil) .nil ?_
    refine jn_seq (j_ret (jr_seq ?_))
    exact jr_fin1 Try.results8 (res_tmp rfl) rfl (rb (by unfold fewF; (try simp at h1); simp; omega))
  · try simp at h1
    refine j_skip (jn_seq (j_seq (j_seq ?_)))
    refine j_region ?_
    refine jg_adr _ rfl _ rfl rfl (op_assign (.base rfl)) ?_
    refine jg_nil ?_
    refine jn_keep [3, 5] [3] (.cons rfl (.cons rfl .nil)) (.cons rfl .nil) ?_
    refine jn_seq (j_block ?_)
    refine j_loopp (ι := Nat) (fun k => ⟨[(3, .optr 3 rSignature.n 0 0), (5, .raw (.int .i64 ((k : Nat))))], [(3, ⟨rSignature, [s]⟩)]⟩) (fun k => k ≤ s.1.length ∧ (s.1.drop k).all (fun x => !decide (40 < (x.2.length : Int))) = fewF e s) (fun k => s.1.length - k) 0 (⟨Nat.zero_le _, by unfold fewF; (try simp at h1); simp; omega⟩) (fun a w hi => (Sub.inv ⟨(by repeat (first | exact SubS_nil | refine SubS_cons rfl (by first | rfl | (simp; done) | assumption) ?_)), (by repeat (first | exact SubH_nil | refine SubH_cons rfl (by first | rfl | (simp; done) | assumption) ?_))⟩ hi)) ?_
    rintro k ⟨hk, hp⟩
    refine j_seq (j_seq ?_)
    refine j_region ?_
    refine jg_adr _ rfl _ rfl rfl (op_move (.base rfl)) ?_
    refine jg_adr _ rfl _ rfl rfl (op_ofield fld27_0 (.base rfl)) ?_
    refine jg_adr _ rfl _ rfl rfl (op_oload ty23 (.base rfl) rfl rfl ln27_0) ?_
    refine jg_adr _ rfl _ rfl rfl (op_len Try.underlying23 (.base rfl)) ?_
    refine jg_adr _ rfl _ rfl rfl (op_lss (.base rfl) (.base rfl)) ?_
    refine jg_nil ?_
    refine jn_keep [3, 5, 43] [3] (.cons rfl (.cons rfl (.cons rfl .nil))) (.cons rfl .nil) ?_
    refine jn_seq ?_
    refine j_cond rfl (fun h4 => ?_) (fun h4 => ?_)
    · try simp at h4
      refine j_skip (jn_seq (j_seq (j_block (j_seq ?_))))
      refine j_region ?_
      refine jg_adr _ rfl _ rfl rfl (op_ofield fld27_0 (.base rfl)) ?_
      refine jg_adr _ rfl _ rfl rfl (op_oload ty23 (.base rfl) rfl rfl ln27_0) ?_
      refine jg_adr _ rfl _ rfl rfl (op_move (.base rfl)) ?_
      refine jg_adr _ rfl _ rfl rfl (op_index Try.underlying23 ty48 (.base rfl) (.base rfl) rfl (List.getElem?_eq_getElem (by first | omega | (simp; done) | (simp; omega) | (simp at hg; omega)))) ?_
      refine jg_adr _ rfl _ rfl rfl (op_field fld48_1 ln48_1 (.base rfl)) ?_
      refine jg_adr _ rfl _ rfl rfl (op_load ty46 (.base rfl)) ?_
      refine jg_adr _ rfl _ rfl rfl (op_len Try.underlying46 (.base rfl)) ?_
      refine jg_adr _ rfl _ rfl rfl (op_gtr (.base rfl) (.base rfl)) ?_
      refine jg_nil ?_
      refine jn_keep [3, 5, 53] [3] (.cons rfl (.cons rfl (.cons rfl .nil))) (.cons rfl .nil) ?_
      refine jn_seq ?_
      refine j_cond rfl (fun h6 => ?_) (fun h6 => ?_)
      · try simp at h6
        refine j_seq ?_
        refine j_region ?_
        refine jg_adr _ rfl _ rfl rfl (op_assign (.base rfl)) ?_
        refine jg_nil ?_
        refine jn_keep [4] [] (.cons rfl .nil) .nil ?_
        refine jn_seq (j_ret (jr_blk (jr_seq (jr_loop (jr_blk (jr_seq ?_))))))
        exact jr_fin1 Try.results8 (res_tmp rfl) rfl (rb (by rw [← hp, List.drop_eq_getElem_cons h4, List.all_cons]; simp; omega))
      · try simp at h6
        refine j_skip (jn_blk (jn_seq ?_))
        refine j_region ?_
        refine jg_adr _ rfl _ rfl rfl (op_move (.base rfl)) ?_
        refine jg_adr _ rfl _ rfl rfl (op_add (.base rfl) (.base rfl) (w64 (by omega))) ?_
        refine jg_adr _ rfl _ rfl rfl (op_assign (.base rfl)) ?_
        refine jg_nil ?_
        refine jn_keep [3, 5] [3] (.cons rfl (.cons rfl .nil)) (.cons rfl .nil) ?_
        exact jn_loop (fun a w hi => ⟨k + 1, (by first | omega | (simp; omega)), (⟨by omega, by rw [← hp, List.drop_eq_getElem_cons h4, List.all_cons]; simp; omega⟩), (Sub.inv ⟨(by repeat (first | exact SubS_nil | refine SubS_cons rfl (by first | rfl | (simp; done) | assumption) ?_)), (by repeat (first | exact SubH_nil | refine SubH_cons rfl (by first | rfl | (simp; done) | assumption) ?_))⟩ hi)⟩)
    · try simp at h4
      refine j_exit (je_seq (je_loop (je_blk (jn_seq (j_seq ?_)))))
      refine j_region ?_
      refine jg_adr _ rfl _ rfl rfl (op_assign (.base rfl)) ?_
      refine jg_nil ?_
      refine jn_keep [4] [] (.cons rfl .nil) .nil ?_
      refine jn_seq (j_ret ?_)
      exact jr_fin1 Try.results8 (res_tmp rfl) rfl (rb (by rw [← hp, List.drop_of_length_le (by omega)]; rfl))

theorem awake_ok  : Ct Try.prog 9 [] (.raw (.bool true)) := by
  refine ct_intro Try.func9 rfl rfl Try.ntmps9 rfl rfl ?_
  intro w0 ok0
  refine j_seq ?_
  refine j_region ?_
  refine jg_adr _ rfl _ rfl rfl (op_assign (.base rfl)) ?_
  refine jg_nil ?_
  refine jn_keep [] [] .nil .nil ?_
  refine jn_seq (j_seq ?_)
  refine j_region ?_
  refine jg_adr _ rfl _ rfl rfl (op_build z50 rfl pl50 (.cons (rt' := (rInt .i64)) rfl ln50_0 (.raw (.base rfl) rfl) .nil)) ?_
  refine jg_adr _ rfl _ rfl rfl (op_build z50 rfl pl50 (.cons (rt' := (rInt .i64)) rfl ln50_0 (.raw (.base rfl) rfl) (.cons (rt' := (rInt .i64)) rfl ln50_1 (.raw (.base rfl) rfl) .nil))) ?_
  refine jg_adr _ rfl _ rfl rfl (op_build z50 rfl pl50 (.cons (rt' := (rInt .i64)) rfl ln50_0 (.raw (.base rfl) rfl) .nil)) ?_
  refine jg_adr _ rfl _ rfl rfl (op_bslice (rt := rNode) Try.underlying22 ty50 z50 rfl (.cons (.tv (.base rfl)) (.cons (.tv (.base rfl)) (.cons (.tv (.base rfl)) .nil))) rfl rfl) ?_
  refine jg_adr _ rfl _ rfl rfl (op_assign (.base rfl)) ?_
  refine jg_nil ?_
  refine jn_keep [1] [] (.cons rfl .nil) .nil ?_
  refine jn_seq (j_seq ?_)
  refine j_region ?_
  refine jg_adr _ rfl _ rfl rfl (op_build z50 rfl pl50 (.cons (rt' := (rInt .i64)) rfl ln50_0 (.raw (.base rfl) rfl) .nil)) ?_
  refine jg_adr _ rfl _ rfl rfl (op_build z50 rfl pl50 (.cons (rt' := (rInt .i64)) rfl ln50_0 (.raw (.base rfl) rfl) (.cons (rt' := (rInt .i64)) rfl ln50_1 (.raw (.base rfl) rfl) .nil))) ?_
  refine jg_adr _ rfl _ rfl rfl (op_build z50 rfl pl50 (.cons (rt' := (rInt .i64)) rfl ln50_0 (.raw (.base rfl) rfl) .nil)) ?_
  refine jg_adr _ rfl _ rfl rfl (op_bslice (rt := rNode) Try.underlying22 ty50 z50 rfl (.cons (.tv (.base rfl)) (.cons (.tv (.base rfl)) (.cons (.tv (.base rfl)) .nil))) rfl rfl) ?_
  refine jg_adr _ rfl _ rfl rfl (op_assign (.base rfl)) ?_
  refine jg_nil ?_
  refine jn_keep [1, 2] [] (.cons rfl (.cons rfl .nil)) .nil ?_
  refine jn_seq (j_seq ?_)
  refine j_region ?_
  refine jg_adr _ rfl _ rfl rfl (op_build z36 rfl pl36 (.cons (rt' := (rInt .i64)) rfl ln36_0 (.raw (.base rfl) rfl) .nil)) ?_
  refine jg_os _ rfl (op_alloc _ z36 rfl rfl rfl) ?_
  refine jg_os _ rfl (op_ostore ty36 (.base rfl) rfl rfl (Lens.id _) (.tv (.base rfl))) ?_
  refine jg_nil ?_
  refine jn_keep [1, 2, 3] [3] (.cons rfl (.cons rfl (.cons rfl .nil))) (.cons rfl .nil) ?_
  refine jn_seq (j_seq ?_)
  refine j_region ?_
  refine jg_adr _ rfl _ rfl rfl (op_oload ty36 (.base rfl) rfl rfl (Lens.id _)) ?_
  refine jg_adr _ rfl _ rfl rfl (op_oload ty36 (.base rfl) rfl rfl (Lens.id _)) ?_
  refine jg_adr _ rfl _ rfl rfl (op_bslice (rt := rType) Try.underlying25 ty36 z36 rfl (.cons (.tv (.base rfl)) (.cons (.tv (.base rfl)) .nil)) rfl rfl) ?_
  refine jg_adr _ rfl _ rfl rfl (op_build z27 rfl pl27 (.cons (rt' := (rSlice rType)) rfl ln27_2 (.tv (.base rfl)) .nil)) ?_
  refine jg_os _ rfl (op_alloc _ z27 rfl rfl rfl) ?_
  refine jg_os _ rfl (op_ostore ty27 (.base rfl) rfl rfl (Lens.id _) (.tv (.base rfl))) ?_
  refine jg_nil ?_
  refine jn_keep [1, 2, 3, 4] [3, 4] (.cons rfl (.cons rfl (.cons rfl (.cons rfl .nil)))) (.cons rfl (.cons rfl .nil)) ?_
  refine jn_seq (j_seq ?_)
  refine j_region ?_
  refine jg_adr _ rfl _ rfl rfl (op_move (.base rfl)) ?_
  refine jg_adr _ rfl _ rfl rfl (op_bslice (rt := (rSlice rNode)) Try.underlying30 ty22 z22 rfl (.cons (.tv (.base rfl)) .nil) rfl rfl) ?_
  refine jg_adr _ rfl _ rfl rfl (op_call (cutPoints_ok _ _ (by decide) (by decide) (by decide) (by decide)) (.cons (.base rfl) (.cons (.base rfl) .nil)) rfl rfl) ?_
  refine jg_adr _ rfl _ rfl rfl (op_assign (.base rfl)) ?_
  refine jg_nil ?_
  refine jn_keep [1, 2, 3, 4, 5] [3, 4] (.cons rfl (.cons rfl (.cons rfl (.cons rfl (.cons rfl .nil))))) (.cons rfl (.cons rfl .nil)) ?_
  refine jn_seq (j_seq ?_)
  refine j_region ?_
  refine jg_adr _ rfl _ rfl rfl (op_move (.base rfl)) ?_
  refine jg_adr _ rfl _ rfl rfl (op_oload ty27 (.base rfl) rfl rfl (Lens.id _)) ?_
  refine jg_adr _ rfl _ rfl rfl (op_call (isFlat_ok _ _ (by decide)) (.cons (.base rfl) (.cons (.base rfl) .nil)) rfl rfl) ?_
  refine jg_adr _ rfl _ rfl rfl (op_move (.base rfl)) ?_
  refine jg_gd _ _ _ _ _ _ rfl rfl rfl rfl rfl (fun hg => op_move (.base rfl)) ?_
  refine jg_gd _ _ _ _ _ _ rfl rfl rfl rfl rfl (fun hg => op_oload ty27 (.base rfl) rfl rfl (Lens.id _)) ?_
  refine jg_gd _ _ _ _ _ _ rfl rfl rfl rfl rfl (fun hg => op_call (isFlat_ok _ _ (by decide)) (.cons (.gd rfl hg) (.cons (.gd rfl hg) .nil)) rfl rfl) ?_
  refine jg_gd _ _ _ _ _ _ rfl rfl rfl rfl rfl (fun hg => op_not (.gd rfl hg)) ?_
  refine jg_adr _ rfl _ rfl rfl (op_pick_and (.base rfl) (.base rfl) rfl (by intro h; first | (rw [h]; rfl) | simp_all)) ?_
  refine jg_adr _ rfl _ rfl rfl (op_move (.base rfl)) ?_
  refine jg_gd _ _ _ _ _ _ rfl rfl rfl rfl rfl (fun hg => op_move (.base rfl)) ?_
  refine jg_gd _ _ _ _ _ _ rfl rfl rfl rfl rfl (fun hg => op_bslice (rt := (rInt .i64)) Try.underlying32 ty3 z3 rfl (.cons (.raw (.base rfl) rfl) (.cons (.raw (.base rfl) rfl) .nil)) rfl rfl) ?_
  refine jg_gd _ _ _ _ _ _ rfl rfl rfl rfl rfl (fun hg => op_call (same_ints _ _) (.cons (.gd rfl hg) (.cons (.gd rfl hg) .nil)) rfl rfl) ?_
  refine jg_adr _ rfl _ rfl rfl (op_pick_and (.base rfl) (.base rfl) rfl (by intro h; first | (rw [h]; rfl) | simp_all)) ?_
  refine jg_adr _ rfl _ rfl rfl (op_move (.base rfl)) ?_
  refine jg_gd _ _ _ _ _ _ rfl rfl rfl rfl rfl (fun hg => op_oload ty36 (.base rfl) rfl rfl (Lens.id _)) ?_
  refine jg_gd _ _ _ _ _ _ rfl rfl rfl rfl rfl (fun hg => op_move (.base rfl)) ?_
  refine jg_gd _ _ _ _ _ _ rfl rfl rfl rfl rfl (fun hg => op_call (reps_ok _ _ _ (by rw [uniqS_I]; decide) (by decide)) (.cons (.gd rfl hg) (.nilS (.base rfl) (.cons (.gd rfl hg) .nil))) rfl rfl) ?_
  refine jg_gd _ _ _ _ _ _ rfl rfl rfl rfl rfl (fun hg => op_bslice (rt := (rInt .i64)) Try.underlying32 ty3 z3 rfl (.cons (.raw (.base rfl) rfl) (.cons (.raw (.base rfl) rfl) (.cons (.raw (.base rfl) rfl) .nil))) rfl rfl) ?_
  refine jg_gd _ _ _ _ _ _ rfl rfl rfl rfl rfl (fun hg => op_call (same_ints _ _) (.cons (.gd rfl hg) (.cons (.gd rfl hg) .nil)) rfl rfl) ?_
  refine jg_adr _ rfl _ rfl rfl (op_pick_and (.base rfl) (.base rfl) rfl (by intro h; first | (rw [h]; rfl) | simp_all)) ?_
  refine jg_adr _ rfl _ rfl rfl (op_move (.base rfl)) ?_
  refine jg_gd _ _ _ _ _ _ rfl rfl rfl rfl rfl (fun hg => op_bslice (rt := (rInt .i64)) Try.underlying32 ty3 z3 rfl (.cons (.raw (.base rfl) rfl) (.cons (.raw (.base rfl) rfl) (.cons (.raw (.base rfl) rfl) .nil))) rfl rfl) ?_
  refine jg_gd _ _ _ _ _ _ rfl rfl rfl rfl rfl (fun hg => op_call (locate_ok _ _) (.cons (.gd rfl hg) (.cons (.base rfl) .nil)) rfl rfl) ?_
  refine jg_gd _ _ _ _ _ _ rfl rfl rfl rfl rfl (fun hg => op_eql (.gd rfl hg) (.base rfl)) ?_
  refine jg_adr _ rfl _ rfl rfl (op_pick_and (.base rfl) (.base rfl) rfl (by intro h; first | (rw [h]; rfl) | simp_all)) ?_
  refine jg_adr _ rfl _ rfl rfl (op_move (.base rfl)) ?_
  refine jg_gd _ _ _ _ _ _ rfl rfl rfl rfl rfl (fun hg => op_bslice (rt := (rInt .i64)) Try.underlying32 ty3 z3 rfl (.cons (.raw (.base rfl) rfl) (.cons (.raw (.base rfl) rfl) (.cons (.raw (.base rfl) rfl) .nil))) rfl rfl) ?_
  refine jg_gd _ _ _ _ _ _ rfl rfl rfl rfl rfl (fun hg => op_call (locate_ok _ _) (.cons (.gd rfl hg) (.cons (.base rfl) .nil)) rfl rfl) ?_
  refine jg_gd _ _ _ _ _ _ rfl rfl rfl rfl rfl (fun hg => op_eql (.gd rfl hg) (.base rfl)) ?_
  refine jg_adr _ rfl _ rfl rfl (op_pick_and (.base rfl) (.base rfl) rfl (by intro h; first | (rw [h]; rfl) | simp_all)) ?_
  refine jg_adr _ rfl _ rfl rfl (op_move (.base rfl)) ?_
  refine jg_gd _ _ _ _ _ _ rfl rfl rfl rfl rfl (fun hg => op_bslice (rt := (rInt .i64)) Try.underlying32 ty3 z3 rfl (.cons (.raw (.base rfl) rfl) (.cons (.raw (.base rfl) rfl) (.cons (.raw (.base rfl) rfl) .nil))) rfl rfl) ?_
  refine jg_gd _ _ _ _ _ _ rfl rfl rfl rfl rfl (fun hg => op_bslice (rt := (rInt .i64)) Try.underlying32 ty3 z3 rfl (.cons (.raw (.base rfl) rfl) (.cons (.raw (.base rfl) rfl) .nil)) rfl rfl) ?_
  refine jg_gd _ _ _ _ _ _ rfl rfl rfl rfl rfl (fun hg => op_bslice (rt := (rSlice (rInt .i64))) Try.underlying43 ty32 z32 rfl (.cons (.tv (.gd rfl hg)) (.cons (.tv (.gd rfl hg)) .nil)) rfl rfl) ?_
  refine jg_gd _ _ _ _ _ _ rfl rfl rfl rfl rfl (fun hg => op_call (count_ok _ (by decide)) (.cons (.gd rfl hg) .nil) rfl rfl) ?_
  refine jg_gd _ _ _ _ _ _ rfl rfl rfl rfl rfl (fun hg => op_eql (.gd rfl hg) (.base rfl)) ?_
  refine jg_adr _ rfl _ rfl rfl (op_pick_and (.base rfl) (.base rfl) rfl (by intro h; first | (rw [h]; rfl) | simp_all)) ?_
  refine jg_adr _ rfl _ rfl rfl (op_assign (.base rfl)) ?_
  refine jg_nil ?_
  refine jn_keep [0] [] (.cons rfl .nil) .nil ?_
  refine jn_seq (j_ret ?_)
  exact jr_fin1 Try.results9 (res_tmp rfl) rfl (rb (by simp only [uniqS_I, repsF]; kernel_rfl))

theorem law_flat (e : List TNode) (s : TSignature) (hn : ∀ d ∈ e, d.2 ≤ 9223372036854775807) : Ct Try.prog 3 [.tv (rSlice rNode) e, .tv rSignature s] (.raw (.bool true)) := by
  refine ct_intro Try.func3 rfl rfl Try.ntmps3 rfl rfl ?_
  intro w0 ok0
  refine j_seq ?_
  refine j_region ?_
  refine jg_os _ rfl (op_box (.tv (.base rfl)) rfl rfl rfl) ?_
  refine jg_adr _ rfl _ rfl rfl (op_assign (.base rfl)) ?_
  refine jg_nil ?_
  refine jn_keep [0, 3] [3] (.cons rfl (.cons rfl .nil)) (.cons rfl .nil) ?_
  refine jn_seq (j_seq (j_seq ?_))
  refine j_region ?_
  refine jg_adr _ rfl _ rfl rfl (op_move (.base rfl)) ?_
  refine jg_adr _ rfl _ rfl rfl (op_oload ty27 (.base rfl) rfl rfl (Lens.id _)) ?_
  refine jg_adr _ rfl _ rfl rfl (op_call (few_ok _ _) (.cons (.base rfl) (.cons (.base rfl) .nil)) rfl rfl) ?_
  refine jg_adr _ rfl _ rfl rfl (op_not (.base rfl)) ?_
  refine jg_nil ?_
  refine jn_keep [0, 3, 8] [3] (.cons rfl (.cons rfl (.cons rfl .nil))) (.cons rfl .nil) ?_
  refine jn_seq ?_
  refine j_cond rfl (fun h1 => ?_) (fun h1 => ?_)
  · try simp at h1
    refine j_seq ?_
    refine j_region ?_
    refine jg_adr _ rfl _ rfl rfl (op_call awake_ok .nil rfl rfl) ?_
    refine jg_adr _ rfl _ rfl rfl (op_assign (.base rfl)) ?_
    refine jg_nil ?_
    refine jn_keep [4] [] (.cons rfl .nil) .nil ?_
    refine jn_seq (j_ret (jr_seq ?_))
    exact jr_fin1 Try.results3 (res_tmp rfl) rfl rfl
  · try simp at h1
    refine j_skip (jn_seq (j_seq ?_))
    refine j_draw mo (by kernel_rfl) (
      AS.cons _ _ rfl (ga_adr rfl rfl rfl (op_move (.base rfl))) (
        AS.cons _ _ rfl (ga_adr rfl rfl rfl (op_oload ty27 (.base rfl) rfl rfl (Lens.id _))) (
        AS.cons _ _ rfl (ga_adr rfl rfl rfl (op_call (isFlat_ok _ _ hn) (.cons (.base rfl) (.cons (.base rfl) .nil)) rfl rfl)) (
        AS.cons _ _ rfl (ga_adr rfl rfl rfl (op_move (.base rfl))) (
        AS.cons _ _ rfl (ga_adr rfl rfl rfl (op_oload ty27 (.base rfl) rfl rfl (Lens.id _))) (
        AS.cons _ _ rfl (ga_adr rfl rfl rfl (op_call (risFlat_ok _ _ hn) (.cons (.base rfl) (.cons (.base rfl) .nil)) rfl rfl)) (
        AS.cons _ _ rfl (ga_adr rfl rfl rfl (op_eql_bool Try.underlying4 (.base rfl) (.base rfl))) (
        AS.cons _ _ rfl (ga_adr rfl rfl rfl (op_move (.base rfl))) (
        AS.cons _ _ rfl (ga_gd _ _ _ _ rfl rfl rfl rfl rfl (fun hg => op_call awake_ok .nil rfl rfl)) (
        AS.cons _ _ rfl (ga_adr rfl rfl rfl (op_pick_and (.base rfl) (.base rfl) rfl (by intro h; first | (rw [h]; rfl) | simp_all))) (
        AS.cons _ _ rfl (ga_adr rfl rfl rfl (op_assign (.base rfl))) (
        AS.nil)))))))))))) ?_
    refine jn_keep [4] [] (.cons rfl .nil) .nil ?_
    refine jn_seq (j_ret ?_)
    exact jr_fin1 Try.results3 (res_tmp rfl) rfl (rb (by simp))

theorem law_locate (l : List Int) (n : Int) : Ct Try.prog 6 [.tv (rSlice (rInt .i64)) l, .raw (.int .i64 n)] (.raw (.bool true)) := by
  refine ct_intro Try.func6 rfl rfl Try.ntmps6 rfl rfl ?_
  intro w0 ok0
  refine j_seq ?_
  refine j_region ?_
  refine jg_adr _ rfl _ rfl rfl (op_assign (.base rfl)) ?_
  refine jg_nil ?_
  refine jn_keep [0, 1] [] (.cons rfl (.cons rfl .nil)) .nil ?_
  refine jn_seq (j_seq (j_seq ?_))
  refine j_region ?_
  refine jg_adr _ rfl _ rfl rfl (op_move (.base rfl)) ?_
  refine jg_adr _ rfl _ rfl rfl (op_len Try.underlying32 (.base rfl)) ?_
  refine jg_adr _ rfl _ rfl rfl (op_gtr (.base rfl) (.base rfl)) ?_
  refine jg_nil ?_
  refine jn_keep [0, 1, 7] [] (.cons rfl (.cons rfl (.cons rfl .nil))) .nil ?_
  refine jn_seq ?_
  refine j_cond rfl (fun h1 => ?_) (fun h1 => ?_)
  · try simp at h1
    refine j_seq ?_
    refine j_region ?_
    refine jg_adr _ rfl _ rfl rfl (op_call awake_ok .nil rfl rfl) ?_
    refine jg_adr _ rfl _ rfl rfl (op_assign (.base rfl)) ?_
    refine jg_nil ?_
    refine jn_keep [4] [] (.cons rfl .nil) .nil ?_
    refine jn_seq (j_ret (jr_seq ?_))
    exact jr_fin1 Try.results6 (res_tmp rfl) rfl rfl
  · try simp at h1
    refine j_skip (jn_seq (j_seq ?_))
    refine j_region ?_
    refine jg_adr _ rfl _ rfl rfl (op_move (.base rfl)) ?_
    refine jg_adr _ rfl _ rfl rfl (op_move (.base rfl)) ?_
    refine jg_adr _ rfl _ rfl rfl (op_call (locate_ok _ _) (.cons (.base rfl) (.cons (.base rfl) .nil)) rfl rfl) ?_
    refine jg_adr _ rfl _ rfl rfl (op_move (.base rfl)) ?_
    refine jg_adr _ rfl _ rfl rfl (op_move (.base rfl)) ?_
    refine jg_adr _ rfl _ rfl rfl (op_call (rlocate_ok _ _) (.cons (.base rfl) (.cons (.base rfl) .nil)) rfl rfl) ?_
    refine jg_adr _ rfl _ rfl rfl (op_eql (.base rfl) (.base rfl)) ?_
    refine jg_adr _ rfl _ rfl rfl (op_move (.base rfl)) ?_
    refine jg_gd _ _ _ _ _ _ rfl rfl rfl rfl rfl (fun hg => op_call awake_ok .nil rfl rfl) ?_
    refine jg_adr _ rfl _ rfl rfl (op_pick_and (.base rfl) (.base rfl) rfl (by intro h; first | (rw [h]; rfl) | simp_all)) ?_
    refine jg_adr _ rfl _ rfl rfl (op_assign (.base rfl)) ?_
    refine jg_nil ?_
    refine jn_keep [4] [] (.cons rfl .nil) .nil ?_
    refine jn_seq (j_ret ?_)
    exact jr_fin1 Try.results6 (res_tmp rfl) rfl (rb (by simp))

theorem law_count (r : List (List Int)) : Ct Try.prog 7 [.tv (rSlice (rSlice (rInt .i64))) r] (.raw (.bool true)) := by
  refine ct_intro Try.func7 rfl rfl Try.ntmps7 rfl rfl ?_
  intro w0 ok0
  refine j_seq ?_
  refine j_region ?_
  refine jg_adr _ rfl _ rfl rfl (op_assign (.base rfl)) ?_
  refine jg_nil ?_
  refine jn_keep [0] [] (.cons rfl .nil) .nil ?_
  refine jn_seq (j_seq (j_seq ?_))
  refine j_region ?_
  refine jg_adr _ rfl _ rfl rfl (op_move (.base rfl)) ?_
  refine jg_adr _ rfl _ rfl rfl (op_len Try.underlying43 (.base rfl)) ?_
  refine jg_adr _ rfl _ rfl rfl (op_gtr (.base rfl) (.base rfl)) ?_
  refine jg_nil ?_
  refine jn_keep [0, 6] [] (.cons rfl (.cons rfl .nil)) .nil ?_
  refine jn_seq ?_
  refine j_cond rfl (fun h1 => ?_) (fun h1 => ?_)
  · try simp at h1
    refine j_seq ?_
    refine j_region ?_
    refine jg_adr _ rfl _ rfl rfl (op_call awake_ok .nil rfl rfl) ?_
    refine jg_adr _ rfl _ rfl rfl (op_assign (.base rfl)) ?_
    refine jg_nil ?_
    refine jn_keep [2] [] (.cons rfl .nil) .nil ?_
    refine jn_seq (j_ret (jr_seq ?_))
    exact jr_fin1 Try.results7 (res_tmp rfl) rfl rfl
  · try simp at h1
    refine j_skip (jn_seq (j_seq (j_seq ?_)))
    refine j_region ?_
    refine jg_adr _ rfl _ rfl rfl (op_assign (.base rfl)) ?_
    refine jg_nil ?_
    refine jn_keep [0, 3] [] (.cons rfl (.cons rfl .nil)) .nil ?_
    refine jn_seq (j_block ?_)
    refine j_loopp (ι := Nat) (fun k => ⟨[(0, .tv (rSlice (rSlice (rInt .i64))) r), (3, .raw (.int .i64 ((k : Nat))))], []⟩) (fun k => k ≤ r.length ∧ ∀ i, i < k → ∀ (hi : i < r.length), r[i].length ≤ 200) (fun k => r.length - k) 0 (⟨Nat.zero_le _, fun i hi => absurd hi (by omega)⟩) (fun a w hi => (Sub.inv ⟨(by repeat (first | exact SubS_nil | refine SubS_cons rfl (by first | rfl | (simp; done) | assumption) ?_)), (by repeat (first | exact SubH_nil | refine SubH_cons rfl (by first | rfl | (simp; done) | assumption) ?_))⟩ hi)) ?_
    rintro k ⟨hk, hp⟩
    refine j_seq (j_seq ?_)
    refine j_region ?_
    refine jg_adr _ rfl _ rfl rfl (op_move (.base rfl)) ?_
    refine jg_adr _ rfl _ rfl rfl (op_move (.base rfl)) ?_
    refine jg_adr _ rfl _ rfl rfl (op_len Try.underlying43 (.base rfl)) ?_
    refine jg_adr _ rfl _ rfl rfl (op_lss (.base rfl) (.base rfl)) ?_
    refine jg_nil ?_
    refine jn_keep [0, 3, 11] [] (.cons rfl (.cons rfl (.cons rfl .nil))) .nil ?_
    refine jn_seq ?_
    refine j_cond rfl (fun h4 => ?_) (fun h4 => ?_)
    · try simp at h4
      refine j_skip (jn_seq (j_seq (j_block (j_seq ?_))))
      refine j_region ?_
      refine jg_adr _ rfl _ rfl rfl (op_move (.base rfl)) ?_
      refine jg_adr _ rfl _ rfl rfl (op_move (.base rfl)) ?_
      refine jg_adr _ rfl _ rfl rfl (op_index Try.underlying43 ty32 (.base rfl) (.base rfl) rfl (List.getElem?_eq_getElem (by first | omega | (simp; done) | (simp; omega) | (simp at hg; omega)))) ?_
      refine jg_adr _ rfl _ rfl rfl (op_load ty32 (.base rfl)) ?_
      refine jg_adr _ rfl _ rfl rfl (op_len Try.underlying32 (.base rfl)) ?_
      refine jg_adr _ rfl _ rfl rfl (op_gtr (.base rfl) (.base rfl)) ?_
      refine jg_nil ?_
      refine jn_keep [0, 3, 19] [] (.cons rfl (.cons rfl (.cons rfl .nil))) .nil ?_
      refine jn_seq ?_
      refine j_cond rfl (fun h6 => ?_) (fun h6 => ?_)
      · try simp at h6
        refine j_seq ?_
        refine j_region ?_
        refine jg_adr _ rfl _ rfl rfl (op_call awake_ok .nil rfl rfl) ?_
        refine jg_adr _ rfl _ rfl rfl (op_assign (.base rfl)) ?_
        refine jg_nil ?_
        refine jn_keep [2] [] (.cons rfl .nil) .nil ?_
        refine jn_seq (j_ret (jr_blk (jr_seq (jr_loop (jr_blk (jr_seq ?_))))))
        exact jr_fin1 Try.results7 (res_tmp rfl) rfl rfl
      · try simp at h6
        refine j_skip (jn_blk (jn_seq ?_))
        refine j_region ?_
        refine jg_adr _ rfl _ rfl rfl (op_move (.base rfl)) ?_
        refine jg_adr _ rfl _ rfl rfl (op_add (.base rfl) (.base rfl) (w64 (by omega))) ?_
        refine jg_adr _ rfl _ rfl rfl (op_assign (.base rfl)) ?_
        refine jg_nil ?_
        refine jn_keep [0, 3] [] (.cons rfl (.cons rfl .nil)) .nil ?_
        exact jn_loop (fun a w hi => ⟨k + 1, (by omega), ⟨by omega, fun i hi1 hi2 => by rcases Nat.lt_or_ge i k with q | q; exact hp i q hi2; have : i = k := (by omega); subst this; omega⟩, (Sub.inv ⟨(by repeat (first | exact SubS_nil | refine SubS_cons rfl (by first | rfl | (simp; done) | assumption) ?_)), (by repeat (first | exact SubH_nil | refine SubH_cons rfl (by first | rfl | (simp; done) | assumption) ?_))⟩ hi)⟩)
    · try simp at h4
      refine j_exit (je_seq (je_loop (je_blk (jn_seq (j_seq ?_)))))
      have hall : ∀ x ∈ r, x.length ≤ 100000 := fun x hx => by obtain ⟨i, hi, rfl⟩ := List.mem_iff_getElem.1 hx; have := hp i (by omega) hi; omega
      refine j_region ?_
      refine jg_adr _ rfl _ rfl rfl (op_move (.base rfl)) ?_
      refine jg_adr _ rfl _ rfl rfl (op_call (count_ok _ hall) (.cons (.base rfl) .nil) rfl rfl) ?_
      refine jg_adr _ rfl _ rfl rfl (op_move (.base rfl)) ?_
      refine jg_adr _ rfl _ rfl rfl (op_call (rcount_ok _ hall) (.cons (.base rfl) .nil) rfl rfl) ?_
      refine jg_adr _ rfl _ rfl rfl (op_eql (.base rfl) (.base rfl)) ?_
      refine jg_adr _ rfl _ rfl rfl (op_move (.base rfl)) ?_
      refine jg_gd _ _ _ _ _ _ rfl rfl rfl rfl rfl (fun hg => op_call awake_ok .nil rfl rfl) ?_
      refine jg_adr _ rfl _ rfl rfl (op_pick_and (.base rfl) (.base rfl) rfl (by intro h; first | (rw [h]; rfl) | simp_all)) ?_
      refine jg_adr _ rfl _ rfl rfl (op_assign (.base rfl)) ?_
      refine jg_nil ?_
      refine jn_keep [2] [] (.cons rfl .nil) .nil ?_
      refine jn_seq (j_ret ?_)
      exact jr_fin1 Try.results7 (res_tmp rfl) rfl (rb (by simp))

theorem law_cuts (gs : List (List TNode)) (inp : Int) (hm : ∀ e ∈ gs, ∀ d ∈ e, d.2 ≤ 9223372036854775807) (hmn : ∀ e ∈ gs, ∀ d ∈ e, -9223372036854775808 ≤ d.2) : Ct Try.prog 4 [.tv (rSlice (rSlice rNode)) gs, .raw (.int .i64 inp)] (.raw (.bool true)) := by
  refine ct_intro Try.func4 rfl rfl Try.ntmps4 rfl rfl ?_
  intro w0 ok0
  refine j_seq ?_
  refine j_region ?_
  refine jg_adr _ rfl _ rfl rfl (op_assign (.base rfl)) ?_
  refine jg_nil ?_
  refine jn_keep [0, 1] [] (.cons rfl (.cons rfl .nil)) .nil ?_
  refine jn_seq (j_seq (j_seq ?_))
  refine j_region ?_
  refine jg_adr _ rfl _ rfl rfl (op_move (.base rfl)) ?_
  refine jg_adr _ rfl _ rfl rfl (op_len Try.underlying30 (.base rfl)) ?_
  refine jg_adr _ rfl _ rfl rfl (op_gtr (.base rfl) (.base rfl)) ?_
  refine jg_nil ?_
  refine jn_keep [0, 1, 8] [] (.cons rfl (.cons rfl (.cons rfl .nil))) .nil ?_
  refine jn_seq ?_
  refine j_cond rfl (fun h1 => ?_) (fun h1 => ?_)
  · try simp at h1
    refine j_seq ?_
    refine j_region ?_
    refine jg_adr _ rfl _ rfl rfl (op_call awake_ok .nil rfl rfl) ?_
    refine jg_adr _ rfl _ rfl rfl (op_assign (.base rfl)) ?_
    refine jg_nil ?_
    refine jn_keep [4] [] (.cons rfl .nil) .nil ?_
    refine jn_seq (j_ret (jr_seq ?_))
    exact jr_fin1 Try.results4 (res_tmp rfl) rfl rfl
  · try simp at h1
    refine j_skip (jn_seq (j_seq (j_seq ?_)))
    refine j_region ?_
    refine jg_adr _ rfl _ rfl rfl (op_assign (.base rfl)) ?_
    refine jg_nil ?_
    refine jn_keep [0, 1, 5] [] (.cons rfl (.cons rfl (.cons rfl .nil))) .nil ?_
    refine jn_seq (j_block ?_)
    refine j_loopp (ι := Nat) (fun k => ⟨[(0, .tv (rSlice (rSlice rNode)) gs), (5, .raw (.int .i64 ((k : Nat)))), (1, .raw (.int .i64 (inp)))], []⟩) (fun k => k ≤ gs.length ∧ ∀ i, i < k → ∀ (hi : i < gs.length), gs[i].length ≤ 60) (fun k => gs.length - k) 0 (⟨Nat.zero_le _, fun i hi => absurd hi (by omega)⟩) (fun a w hi => (Sub.inv ⟨(by repeat (first | exact SubS_nil | refine SubS_cons rfl (by first | rfl | (simp; done) | assumption) ?_)), (by repeat (first | exact SubH_nil | refine SubH_cons rfl (by first | rfl | (simp; done) | assumption) ?_))⟩ hi)) ?_
    rintro k ⟨hk, hp⟩
    refine j_seq (j_seq ?_)
    refine j_region ?_
    refine jg_adr _ rfl _ rfl rfl (op_move (.base rfl)) ?_
    refine jg_adr _ rfl _ rfl rfl (op_move (.base rfl)) ?_
    refine jg_adr _ rfl _ rfl rfl (op_len Try.underlying30 (.base rfl)) ?_
    refine jg_adr _ rfl _ rfl rfl (op_lss (.base rfl) (.base rfl)) ?_
    refine jg_nil ?_
    refine jn_keep [0, 1, 5, 13] [] (.cons rfl (.cons rfl (.cons rfl (.cons rfl .nil)))) .nil ?_
    refine jn_seq ?_
    refine j_cond rfl (fun h4 => ?_) (fun h4 => ?_)
    · try simp at h4
      refine j_skip (jn_seq (j_seq (j_block (j_seq ?_))))
      refine j_region ?_
      refine jg_adr _ rfl _ rfl rfl (op_move (.base rfl)) ?_
      refine jg_adr _ rfl _ rfl rfl (op_move (.base rfl)) ?_
      refine jg_adr _ rfl _ rfl rfl (op_index Try.underlying30 ty22 (.base rfl) (.base rfl) rfl (List.getElem?_eq_getElem (by first | omega | (simp; done) | (simp; omega) | (simp at hg; omega)))) ?_
      refine jg_adr _ rfl _ rfl rfl (op_load ty22 (.base rfl)) ?_
      refine jg_adr _ rfl _ rfl rfl (op_len Try.underlying22 (.base rfl)) ?_
      refine jg_adr _ rfl _ rfl rfl (op_gtr (.base rfl) (.base rfl)) ?_
      refine jg_nil ?_
      refine jn_keep [0, 1, 5, 21] [] (.cons rfl (.cons rfl (.cons rfl (.cons rfl .nil)))) .nil ?_
      refine jn_seq ?_
      refine j_cond rfl (fun h6 => ?_) (fun h6 => ?_)
      · try simp at h6
        refine j_seq ?_
        refine j_region ?_
        refine jg_adr _ rfl _ rfl rfl (op_call awake_ok .nil rfl rfl) ?_
        refine jg_adr _ rfl _ rfl rfl (op_assign (.base rfl)) ?_
        refine jg_nil ?_
        refine jn_keep [4] [] (.cons rfl .nil) .nil ?_
        refine jn_seq (j_ret (jr_blk (jr_seq (jr_loop (jr_blk (jr_seq ?_))))))
        exact jr_fin1 Try.results4 (res_tmp rfl) rfl rfl
      · try simp at h6
        refine j_skip (jn_blk (jn_seq ?_))
        refine j_region ?_
        refine jg_adr _ rfl _ rfl rfl (op_move (.base rfl)) ?_
        refine jg_adr _ rfl _ rfl rfl (op_add (.base rfl) (.base rfl) (w64 (by omega))) ?_
        refine jg_adr _ rfl _ rfl rfl (op_assign (.base rfl)) ?_
        refine jg_nil ?_
        refine jn_keep [0, 1, 5] [] (.cons rfl (.cons rfl (.cons rfl .nil))) .nil ?_
        exact jn_loop (fun a w hi => ⟨k + 1, (by omega), ⟨by omega, fun i hi1 hi2 => by rcases Nat.lt_or_ge i k with q | q; exact hp i q hi2; have : i = k := (by omega); subst this; omega⟩, (Sub.inv ⟨(by repeat (first | exact SubS_nil | refine SubS_cons rfl (by first | rfl | (simp; done) | assumption) ?_)), (by repeat (first | exact SubH_nil | refine SubH_cons rfl (by first | rfl | (simp; done) | assumption) ?_))⟩ hi)⟩)
    · try simp at h4
      refine j_exit (je_seq (je_loop (je_blk (jn_seq (j_seq ?_)))))
      have hall : ∀ x ∈ gs, x.length ≤ 1000 := fun x hx => by obtain ⟨i, hi, rfl⟩ := List.mem_iff_getElem.1 hx; have := hp i (by omega) hi; omega
      have hg1 : gs.length ≤ 100 := by omega
      refine j_region ?_
      refine jg_adr _ rfl _ rfl rfl (op_move (.base rfl)) ?_
      refine jg_adr _ rfl _ rfl rfl (op_move (.base rfl)) ?_
      refine jg_adr _ rfl _ rfl rfl (op_call (cutPoints_ok _ _ hg1 hall hm hmn) (.cons (.base rfl) (.cons (.base rfl) .nil)) rfl rfl) ?_
      refine jg_adr _ rfl _ rfl rfl (op_move (.base rfl)) ?_
      refine jg_adr _ rfl _ rfl rfl (op_move (.base rfl)) ?_
      refine jg_adr _ rfl _ rfl rfl (op_call (rcutPoints_ok _ _ hg1 hall hm hmn) (.cons (.base rfl) (.cons (.base rfl) .nil)) rfl rfl) ?_
      refine jg_adr _ rfl _ rfl rfl (op_call (same_ints _ _) (.cons (.base rfl) (.cons (.base rfl) .nil)) rfl rfl) ?_
      refine jg_adr _ rfl _ rfl rfl (op_move (.base rfl)) ?_
      refine jg_gd _ _ _ _ _ _ rfl rfl rfl rfl rfl (fun hg => op_call awake_ok .nil rfl rfl) ?_
      refine jg_adr _ rfl _ rfl rfl (op_pick_and (.base rfl) (.base rfl) rfl (by intro h; first | (rw [h]; rfl) | simp_all)) ?_
      refine jg_adr _ rfl _ rfl rfl (op_assign (.base rfl)) ?_
      refine jg_nil ?_
      refine jn_keep [4] [] (.cons rfl .nil) .nil ?_
      refine jn_seq (j_ret ?_)
      exact jr_fin1 Try.results4 (res_tmp rfl) rfl (rb (by simp))

theorem law_reps (t : TType) (en : List TEnum) (cuts : List Int) (n : Int) : Ct Try.prog 5 [.tv rType t, .tv (rSlice rEnum) en, .tv (rSlice (rInt .i64)) cuts, .raw (.int .i64 n)] (.raw (.bool true)) := by
  refine ct_intro Try.func5 rfl rfl Try.ntmps5 rfl rfl ?_
  intro w0 ok0
  refine j_seq ?_
  refine j_region ?_
  refine jg_os _ rfl (op_box (.tv (.base rfl)) rfl rfl rfl) ?_
  refine jg_adr _ rfl _ rfl rfl (op_assign (.base rfl)) ?_
  refine jg_nil ?_
  refine jn_keep [1, 2, 3, 4] [4] (.cons rfl (.cons rfl (.cons rfl (.cons rfl .nil)))) (.cons rfl .nil) ?_
  refine jn_seq (j_seq (j_seq ?_))
  refine j_region ?_
  refine jg_adr _ rfl _ rfl rfl (op_move (.base rfl)) ?_
  refine jg_adr _ rfl _ rfl rfl (op_len Try.underlying32 (.base rfl)) ?_
  refine jg_adr _ rfl _ rfl rfl (op_gtr (.base rfl) (.base rfl)) ?_
  refine jg_adr _ rfl _ rfl rfl (op_move (.base rfl)) ?_
  refine jg_gd _ _ _ _ _ _ rfl rfl rfl rfl rfl (fun hg => op_move (.base rfl)) ?_
  refine jg_gd _ _ _ _ _ _ rfl rfl rfl rfl rfl (fun hg => op_build z27 rfl pl27 (.cons (rt' := (rSlice rEnum)) rfl ln27_0 (.tv (.gd rfl hg)) .nil)) ?_
  refine jg_gd _ _ _ _ _ _ rfl rfl rfl rfl rfl (fun hg => op_call (few_ok _ _) (.nilS (.base rfl) (.cons (.gd rfl hg) .nil)) rfl rfl) ?_
  refine jg_gd _ _ _ _ _ _ rfl rfl rfl rfl rfl (fun hg => op_not (.gd rfl hg)) ?_
  refine jg_adr _ rfl _ rfl rfl (op_pick_or (.base rfl) (.base rfl) rfl (by intro h; first | (rw [h]; rfl) | simp_all)) ?_
  refine jg_nil ?_
  refine jn_keep [1, 2, 3, 4, 21] [4] (.cons rfl (.cons rfl (.cons rfl (.cons rfl (.cons rfl .nil))))) (.cons rfl .nil) ?_
  refine jn_seq ?_
  refine j_cond rfl (fun h1 => ?_) (fun h1 => ?_)
  · try simp at h1
    refine j_seq ?_
    refine j_region ?_
    refine jg_adr _ rfl _ rfl rfl (op_call awake_ok .nil rfl rfl) ?_
    refine jg_adr _ rfl _ rfl rfl (op_assign (.base rfl)) ?_
    refine jg_nil ?_
    refine jn_keep [8] [] (.cons rfl .nil) .nil ?_
    refine jn_seq (j_ret (jr_seq ?_))
    exact jr_fin1 Try.results5 (res_tmp rfl) rfl rfl
  · try simp at h1
    refine j_skip (jn_seq (j_seq ?_))
    have h1a : cuts.length ≤ 10000 := by omega
    have hfew : fewF [] (en, [], [], [], [], false) = true := h1.2
    have hen : ∀ x ∈ en, x.2.length ≤ 100000 := few_mem hfew
    refine j_region ?_
    refine jg_adr _ rfl _ rfl rfl (op_oload ty36 (.base rfl) rfl rfl (Lens.id _)) ?_
    refine jg_adr _ rfl _ rfl rfl (op_move (.base rfl)) ?_
    refine jg_adr _ rfl _ rfl rfl (op_move (.base rfl)) ?_
    refine jg_adr _ rfl _ rfl rfl (op_call (reps_ok _ _ _ h1a hen) (.cons (.base rfl) (.cons (.base rfl) (.cons (.base rfl) .nil))) rfl rfl) ?_
    refine jg_adr _ rfl _ rfl rfl (op_assign (.base rfl)) ?_
    refine jg_nil ?_
    refine jn_keep [1, 2, 3, 4, 9] [4] (.cons rfl (.cons rfl (.cons rfl (.cons rfl (.cons rfl .nil))))) (.cons rfl .nil) ?_
    refine jn_seq (j_seq (j_seq ?_))
    refine j_region ?_
    refine jg_adr _ rfl _ rfl rfl (op_move (.base rfl)) ?_
    refine jg_adr _ rfl _ rfl rfl (op_oload ty36 (.base rfl) rfl rfl (Lens.id _)) ?_
    refine jg_adr _ rfl _ rfl rfl (op_move (.base rfl)) ?_
    refine jg_adr _ rfl _ rfl rfl (op_move (.base rfl)) ?_
    refine jg_adr _ rfl _ rfl rfl (op_call (rreps_ok _ _ _ h1a hen) (.cons (.base rfl) (.cons (.base rfl) (.cons (.base rfl) .nil))) rfl rfl) ?_
    refine jg_adr _ rfl _ rfl rfl (op_call (same_ints _ _) (.cons (.base rfl) (.cons (.base rfl) .nil)) rfl rfl) ?_
    refine jg_adr _ rfl _ rfl rfl (op_not (.base rfl)) ?_
    refine jg_nil ?_
    refine jn_keep [1, 3, 4, 9, 33] [4] (.cons rfl (.cons rfl (.cons rfl (.cons rfl (.cons rfl .nil))))) (.cons rfl .nil) ?_
    refine jn_seq ?_
    refine j_cond rfl (fun h4 => ?_) (fun h4 => ?_)
    · exact absurd h4 (by simp)
    · try simp at h4
      refine j_skip (jn_seq (j_seq ?_))
      refine j_region ?_
      refine jg_adr _ rfl _ rfl rfl (op_oload ty36 (.base rfl) rfl rfl (Lens.id _)) ?_
      refine jg_adr _ rfl _ rfl rfl (op_move (.base rfl)) ?_
      refine jg_adr _ rfl _ rfl rfl (op_call (rbounds_ok _ _) (.cons (.base rfl) (.cons (.base rfl) .nil)) rfl rfl) ?_
      refine jg_adr _ rfl _ rfl rfl (op_move (.base rfl)) ?_
      refine jg_adr _ rfl _ rfl rfl (op_ext20 (.base rfl)) ?_
      refine jg_adr _ rfl _ rfl rfl (op_ext21 (.base rfl)) ?_
      refine jg_adr _ rfl _ rfl rfl (op_assign (.base rfl)) ?_
      refine jg_adr _ rfl _ rfl rfl (op_assign (.base rfl)) ?_
      refine jg_nil ?_
      refine jn_keep [3, 9, 10, 11] [] (.cons rfl (.cons rfl (.cons rfl (.cons rfl .nil)))) .nil ?_
      refine jn_seq (j_seq (j_seq ?_))
      refine j_region ?_
      refine jg_adr _ rfl _ rfl rfl (op_move (.base rfl)) ?_
      refine jg_adr _ rfl _ rfl rfl (op_move (.base rfl)) ?_
      refine jg_adr _ rfl _ rfl rfl (op_lss (.base rfl) (.base rfl)) ?_
      refine jg_adr _ rfl _ rfl rfl (op_move (.base rfl)) ?_
      refine jg_gd _ _ _ _ _ _ rfl rfl rfl rfl rfl (fun hg => op_move (.base rfl)) ?_
      refine jg_gd _ _ _ _ _ _ rfl rfl rfl rfl rfl (fun hg => op_move (.base rfl)) ?_
      refine jg_gd _ _ _ _ _ _ rfl rfl rfl rfl rfl (fun hg => op_gtr (.gd rfl hg) (.gd rfl hg)) ?_
      refine jg_adr _ rfl _ rfl rfl (op_pick_or (.base rfl) (.base rfl) rfl (by intro h; first | (rw [h]; rfl) | simp_all)) ?_
      refine jg_nil ?_
      refine jn_keep [3, 9, 10, 47] [] (.cons rfl (.cons rfl (.cons rfl (.cons rfl .nil)))) .nil ?_
      refine jn_seq ?_
      refine j_cond rfl (fun h7 => ?_) (fun h7 => ?_)
      · try simp at h7
        refine j_seq ?_
        refine j_region ?_
        refine jg_adr _ rfl _ rfl rfl (op_call awake_ok .nil rfl rfl) ?_
        refine jg_adr _ rfl _ rfl rfl (op_assign (.base rfl)) ?_
        refine jg_nil ?_
        refine jn_keep [8] [] (.cons rfl .nil) .nil ?_
        refine jn_seq (j_ret (jr_seq ?_))
        exact jr_fin1 Try.results5 (res_tmp rfl) rfl rfl
      · try simp at h7
        refine j_skip (jn_seq (j_seq ?_))
        refine j_region ?_
        refine jg_adr _ rfl _ rfl rfl (op_move (.base rfl)) ?_
        refine jg_adr _ rfl _ rfl rfl (op_move (.base rfl)) ?_
        refine jg_adr _ rfl _ rfl rfl (op_call (locate_ok _ _) (.cons (.base rfl) (.cons (.base rfl) .nil)) rfl rfl) ?_
        refine jg_adr _ rfl _ rfl rfl (op_assign (.base rfl)) ?_
        refine jg_nil ?_
        refine jn_keep [3, 9, 10, 12] [] (.cons rfl (.cons rfl (.cons rfl (.cons rfl .nil)))) .nil ?_
        refine jn_seq (j_seq ?_)
        have hb : (bounds t en).1 ≤ n ∧ n ≤ (bounds t en).2 := h7
        have hhd := reps_head (t := t) (en := en) (cuts := cuts) (by omega)
        obtain ⟨K, hK, hK0, hK1, hK2⟩ := locate_spec hhd hb.1
        obtain ⟨hq0, hq1⟩ := hhd
        have hz : (repsF t en cuts)[0]?.getD 0 = (bounds t en).1 := by rw [List.getElem?_eq_getElem hq0]; exact hq1
        have hKs : (K : Int) + 1 = ((K + 1 : Nat) : Int) := by omega
        have g1 : decide ((K : Int) ≥ 0) = true := decide_eq_true (by omega)
        have g2 : decide ((K : Int) < ((repsF t en cuts).length : Int)) = true := decide_eq_true (by omega)
        have g3 : ((((K : Int) + 1 == ((repsF t en cuts).length : Int)) || decide (n < (repsF t en cuts)[K + 1]?.getD 0))) = true := by rcases hK2 with q | q; rw [show ((K : Int) + 1 == ((repsF t en cuts).length : Int)) = true from beq_iff_eq.2 (by omega)]; rfl; rw [decide_eq_true q, Bool.or_true]
        rw [hK]
        refine j_len 9 rfl (fun hl9 => ?_)
        refine j_region ?_
        refine jg_adr _ rfl _ rfl rfl (op_move (.base rfl)) ?_
        refine jg_adr _ rfl _ rfl rfl (op_geq (.base rfl) (.base rfl)) ?_
        refine jg_adr _ rfl _ rfl rfl (op_move (.base rfl)) ?_
        refine jg_gd _ _ _ _ _ _ rfl rfl rfl rfl rfl (fun hg => op_move (.base rfl)) ?_
        refine jg_gd _ _ _ _ _ _ rfl rfl rfl rfl rfl (fun hg => op_move (.base rfl)) ?_
        refine jg_gd _ _ _ _ _ _ rfl rfl rfl rfl rfl (fun hg => op_len Try.underlying32 (.gd rfl hg)) ?_
        refine jg_gd _ _ _ _ _ _ rfl rfl rfl rfl rfl (fun hg => op_lss (.gd rfl hg) (.gd rfl hg)) ?_
        refine jg_adr _ rfl _ rfl rfl (op_pick_and (.base rfl) (.base rfl) rfl (by intro h; first | (rw [h]; rfl) | simp_all)) ?_
        refine jg_adr _ rfl _ rfl rfl (op_move (.base rfl)) ?_
        refine jg_gd _ _ _ _ _ _ rfl rfl rfl rfl rfl (fun hg => op_move (.base rfl)) ?_
        refine jg_gd _ _ _ _ _ _ rfl rfl rfl rfl rfl (fun hg => op_index Try.underlying32 ty3 (.gd rfl hg) (.base rfl) rfl (getD_some (z := (0 : Int)) (by first | omega | (simp; done) | (simp; omega) | (simp at hg; omega) | (simp at hg; simp; omega)))) ?_
        refine jg_gd _ _ _ _ _ _ rfl rfl rfl rfl rfl (fun hg => op_load ty3 (.gd rfl hg)) ?_
        refine jg_gd _ _ _ _ _ _ rfl rfl rfl rfl rfl (fun hg => op_move (.base rfl)) ?_
        refine jg_gd _ _ _ _ _ _ rfl rfl rfl rfl rfl (fun hg => op_eql (.gd rfl hg) (.gd rfl hg)) ?_
        refine jg_adr _ rfl _ rfl rfl (op_pick_and (.base rfl) (.base rfl) rfl (by intro h; first | (rw [h]; rfl) | simp_all)) ?_
        refine jg_adr _ rfl _ rfl rfl (op_move (.base rfl)) ?_
        refine jg_gd _ _ _ _ _ _ rfl rfl rfl rfl rfl (fun hg => op_move (.base rfl)) ?_
        refine jg_gd _ _ _ _ _ _ rfl rfl rfl rfl rfl (fun hg => op_move (.base rfl)) ?_
        refine jg_gd _ _ _ _ _ _ rfl rfl rfl rfl rfl (fun hg => op_index Try.underlying32 ty3 (.gd rfl hg) (.gd rfl hg) rfl (getD_some (z := (0 : Int)) (by first | omega | (simp; done) | (simp; omega) | (simp at hg; omega) | (simp at hg; simp; omega)))) ?_
        refine jg_gd _ _ _ _ _ _ rfl rfl rfl rfl rfl (fun hg => op_load ty3 (.gd rfl hg)) ?_
        refine jg_gd _ _ _ _ _ _ rfl rfl rfl rfl rfl (fun hg => op_move (.base rfl)) ?_
        refine jg_gd _ _ _ _ _ _ rfl rfl rfl rfl rfl (fun hg => op_leq (.gd rfl hg) (.gd rfl hg)) ?_
        refine jg_adr _ rfl _ rfl rfl (op_pick_and (.base rfl) (.base rfl) rfl (by intro h; first | (rw [h]; rfl) | simp_all)) ?_
        refine jg_adr _ rfl _ rfl rfl (op_move (.base rfl)) ?_
        refine jg_gd _ _ _ _ _ _ rfl rfl rfl rfl rfl (fun hg => op_move (.base rfl)) ?_
        refine jg_gd _ _ _ _ _ _ rfl rfl rfl rfl rfl (fun hg => op_add (.gd rfl hg) (.base rfl) (w64 (by omega))) ?_
        refine jg_gd _ _ _ _ _ _ rfl rfl rfl rfl rfl (fun hg => op_move (.base rfl)) ?_
        refine jg_gd _ _ _ _ _ _ rfl rfl rfl rfl rfl (fun hg => op_len Try.underlying32 (.gd rfl hg)) ?_
        refine jg_gd _ _ _ _ _ _ rfl rfl rfl rfl rfl (fun hg => op_eql (.gd rfl hg) (.gd rfl hg)) ?_
        refine jg_gd _ _ _ _ _ _ rfl rfl rfl rfl rfl (fun hg => op_move (.gd rfl hg)) ?_
        refine jg_gd2 _ _ _ _ _ _ _ rfl rfl rfl rfl rfl (fun hg => op_move (.base rfl)) ?_
        refine jg_gd2 _ _ _ _ _ _ _ rfl rfl rfl rfl rfl (fun hg => op_move (.base rfl)) ?_
        refine jg_gd2 _ _ _ _ _ _ _ rfl rfl rfl rfl rfl (fun hg => op_move (.base rfl)) ?_
        refine jg_gd2 _ _ _ _ _ _ _ rfl rfl rfl rfl rfl (fun hg => op_add (.gd rfl hg) (.base rfl) (w64 (by omega))) ?_
        refine jg_gd2 _ _ _ _ _ _ _ rfl rfl rfl rfl rfl (fun hg => op_index Try.underlying32 ty3 (.gd rfl hg) (.gd rfl hg) hKs (getD_some (z := (0 : Int)) (by first | omega | (simp; done) | (simp; omega) | (simp at hg; omega) | (simp at hg; simp; omega)))) ?_
        refine jg_gd2 _ _ _ _ _ _ _ rfl rfl rfl rfl rfl (fun hg => op_load ty3 (.gd rfl hg)) ?_
        refine jg_gd2 _ _ _ _ _ _ _ rfl rfl rfl rfl rfl (fun hg => op_lss (.gd rfl hg) (.gd rfl hg)) ?_
        refine jg_gd _ _ _ _ _ _ rfl rfl rfl rfl rfl (fun hg => op_pick_or (.gd rfl hg) (.base rfl) rfl (by intro h; first | (rw [h]; rfl) | simp_all)) ?_
        refine jg_adr _ rfl _ rfl rfl (op_pick_and (.base rfl) (.base rfl) rfl (by intro h; first | (rw [h]; rfl) | simp_all)) ?_
        refine jg_adr _ rfl _ rfl rfl (op_move (.base rfl)) ?_
        refine jg_gd _ _ _ _ _ _ rfl rfl rfl rfl rfl (fun hg => op_call awake_ok .nil rfl rfl) ?_
        refine jg_adr _ rfl _ rfl rfl (op_pick_and (.base rfl) (.base rfl) rfl (by intro h; first | (rw [h]; rfl) | simp_all)) ?_
        refine jg_adr _ rfl _ rfl rfl (op_assign (.base rfl)) ?_
        refine jg_nil ?_
        refine jn_keep [8] [] (.cons rfl .nil) .nil ?_
        refine jn_seq (j_ret ?_)
        exact jr_fin1 Try.results5 (res_tmp rfl) rfl (rb (by simp only [hz, decide_eq_true hK1, g1, g2, g3, beq_self_eq_true, Bool.and_true]))

end Go.Proofs.Ytgoggdaohdablaa
