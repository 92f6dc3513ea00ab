import Derived.Test.YtgoggdaohdablaaGreatP23e
namespace Go.Proofs.YtgoggdaohdablaaGreat
open Go.Eng
set_option maxRecDepth 100000
set_option maxHeartbeats 4000000
set_option linter.unusedVariables false
set_option linter.unusedSimpArgs false


def fewF (e : List TNode) (s : TSignature) : Bool := !(decide (60 < (e.length : Int)) || decide (20 < (s.1.length : Int)) || decide (20 < (s.2.1.length : Int)) || decide (20 < (s.2.2.1.length : Int)) || decide (20 < (s.2.2.2.1.length : Int)) || decide (20 < (s.2.2.2.2.1.length : Int))) && s.1.all (fun x => !decide (40 < (x.2.length : Int)))
theorem few_mem {e : List TNode} {s : TSignature} (h : fewF e s = true) : ∀ x ∈ s.1, x.2.length ≤ 100000 := fun x hx => by
  unfold fewF at h
  have := List.all_eq_true.1 (Bool.and_eq_true_iff.1 h).2 x hx
  simp at this; omega
theorem locK_spec {l : List Int} {n : Int} : ∀ k, k ≤ l.length → (locK l n k = -1 ∧ ∀ j (hj : j < l.length), j < k → n < l[j]) ∨ ∃ K, ∃ hK : K < l.length, K < k ∧ locK l n k = (K : Int) ∧ l[K] ≤ n ∧ ∀ j (hj : j < l.length), K < j → j < k → n < l[j]
  | 0, _ => .inl ⟨rfl, fun j _ h => absurd h (by omega)⟩
  | k + 1, hk => by
    have hk' : k < l.length := by omega
    by_cases q : l[k] ≤ n
    · exact .inr ⟨k, hk', by omega, locK_t hk' q, q, fun j _ h1 h2 => absurd h1 (by omega)⟩
    · rw [locK_f hk' q]
      rcases locK_spec (l := l) (n := n) k (by omega) with ⟨h1, h2⟩ | ⟨K, hK, h1, h2, h3, h4⟩
      · refine .inl ⟨h1, fun j hj h => ?_⟩
        rcases Nat.lt_or_ge j k with r | r
        · exact h2 j hj r
        · have : j = k := by omega
          subst this; omega
      · refine .inr ⟨K, hK, by omega, h2, h3, fun j hj q1 q2 => ?_⟩
        rcases Nat.lt_or_ge j k with r | r
        · exact h4 j hj q1 r
        · have : j = k := by omega
          subst this; omega
theorem strict_head {l : List Int} {a : Int} (hs : l.Pairwise (· < ·)) (ha : a ∈ l) (hm : ∀ x ∈ l, a ≤ x) : ∃ h : 0 < l.length, l[0] = a := by
  cases l with
  | nil => simp at ha
  | cons b r =>
    refine ⟨by simp, ?_⟩
    have h1 := hm b (by simp)
    rcases List.mem_cons.1 ha with e | e
    · exact e.symm
    · have := (List.pairwise_cons.1 hs).1 a e; simp only [List.getElem_cons_zero]; omega
theorem reps_head {t : TType} {en : List TEnum} {cuts : List Int} (h : (bounds t en).1 ≤ (bounds t en).2) : ∃ h : 0 < (repsF t en cuts).length, (repsF t en cuts)[0] = (bounds t en).1 := by
  have hv : validType t en = true := bounds_valid (by omega)
  have hne : ¬ validType t en = false := by simp [hv]
  by_cases hk : t.1 = 1 ∨ t.1 = 6
  · have e : repsF t en cuts = rng (bounds t en).1 ((bounds t en).2 - (bounds t en).1 + 1).toNat := by unfold repsF; rw [if_neg hne, if_pos hk]
    rw [e]
    refine ⟨by rw [rng_len]; omega, ?_⟩
    simp [rng]
  · have e : repsF t en cuts = uniqS ([(bounds t en).1] ++ cuts.filter (inR (bounds t en).1 (bounds t en).2)) := by unfold repsF; rw [if_neg hne, if_neg hk]
    rw [e]
    obtain ⟨h1, h2⟩ := uniqS_ok ([(bounds t en).1] ++ cuts.filter (inR (bounds t en).1 (bounds t en).2))
    refine strict_head h1 ((h2 _).2 (by simp)) fun x hx => ?_
    rcases List.mem_append.1 ((h2 x).1 hx) with q | q
    · obtain rfl := List.mem_singleton.1 q; exact Int.le_refl _
    · have := (List.mem_filter.1 q).2; simp [inR] at this; exact this.1
theorem locate_spec {l : List Int} {n lo : Int} (h0 : ∃ h : 0 < l.length, l[0] = lo) (hn : lo ≤ n) : ∃ K : Nat, locateF l n = (K : Int) ∧ K < l.length ∧ l[K]?.getD 0 ≤ n ∧ (K + 1 = l.length ∨ n < l[K + 1]?.getD 0) := by
  obtain ⟨h0, h1⟩ := h0
  rcases locK_spec (l := l) (n := n) l.length (Nat.le_refl _) with ⟨_, h2⟩ | ⟨K, hK, _, h2, h3, h4⟩
  · have := h2 0 h0 h0; omega
  · refine ⟨K, h2, hK, by rw [List.getElem?_eq_getElem hK]; exact h3, ?_⟩
    by_cases q : K + 1 = l.length
    · exact .inl q
    · right
      have hK1 : K + 1 < l.length := by omega
      rw [List.getElem?_eq_getElem hK1]; exact h4 _ hK1 (by omega) hK1

theorem few_ok (e : List TNode) (s : TSignature) : Ct Tryz.prog 4 [.tv (rSlice rNode) e, .tv rSignature s] (.raw (.bool (fewF e s))) := by
  refine ct_intro Tryz.func4 rfl rfl Tryz.ntmps4 rfl rfl ?_
  intro w0 ok0
  refine j_seq ?_
  refine j_region ?_
  refine jg_os _ rfl (op_box (.tv (.base rfl)) rfl rfl rfl) ?_
  refine jg_adr _ rfl _ rfl rfl (op_assign (.base rfl)) ?_
  refine jg_nil ?_
  refine jn_keep [0, 3] [3] (.cons rfl (.cons rfl .nil)) (.cons rfl .nil) ?_
  refine jn_seq (j_seq (j_seq ?_))
  refine j_region ?_
  refine jg_adr _ rfl _ rfl rfl (op_move (.base rfl)) ?_
  refine jg_adr _ rfl _ rfl rfl (op_len Tryz.underlying22 (.base rfl)) ?_
  refine jg_adr _ rfl _ rfl rfl (op_gtr (.base rfl) (.base rfl)) ?_
  refine jg_adr _ rfl _ rfl rfl (op_move (.base rfl)) ?_
  refine jg_gd _ _ _ _ _ _ rfl rfl rfl rfl rfl (fun hg => op_ofield fld27_0 (.base rfl)) ?_
  refine jg_gd _ _ _ _ _ _ rfl rfl rfl rfl rfl (fun hg => op_oload ty23 (.gd rfl hg) rfl rfl ln27_0) ?_
  refine jg_gd _ _ _ _ _ _ rfl rfl rfl rfl rfl (fun hg => op_len Tryz.underlying23 (.gd rfl hg)) ?_
  refine jg_gd _ _ _ _ _ _ rfl rfl rfl rfl rfl (fun hg => op_gtr (.gd rfl hg) (.base rfl)) ?_
  refine jg_adr _ rfl _ rfl rfl (op_pick_or (.base rfl) (.base rfl) rfl (by intro h; first | (rw [h]; rfl) | (rw [hg, h]; rfl) | (rw [h, hg]; rfl) | simp_all)) ?_
  refine jg_adr _ rfl _ rfl rfl (op_move (.base rfl)) ?_
  refine jg_gd _ _ _ _ _ _ rfl rfl rfl rfl rfl (fun hg => op_ofield fld27_1 (.base rfl)) ?_
  refine jg_gd _ _ _ _ _ _ rfl rfl rfl rfl rfl (fun hg => op_oload ty24 (.gd rfl hg) rfl rfl ln27_1) ?_
  refine jg_gd _ _ _ _ _ _ rfl rfl rfl rfl rfl (fun hg => op_len Tryz.underlying24 (.gd rfl hg)) ?_
  refine jg_gd _ _ _ _ _ _ rfl rfl rfl rfl rfl (fun hg => op_gtr (.gd rfl hg) (.base rfl)) ?_
  refine jg_adr _ rfl _ rfl rfl (op_pick_or (.base rfl) (.base rfl) rfl (by intro h; first | (rw [h]; rfl) | (rw [hg, h]; rfl) | (rw [h, hg]; rfl) | simp_all)) ?_
  refine jg_adr _ rfl _ rfl rfl (op_move (.base rfl)) ?_
  refine jg_gd _ _ _ _ _ _ rfl rfl rfl rfl rfl (fun hg => op_ofield fld27_2 (.base rfl)) ?_
  refine jg_gd _ _ _ _ _ _ rfl rfl rfl rfl rfl (fun hg => op_oload ty25 (.gd rfl hg) rfl rfl ln27_2) ?_
  refine jg_gd _ _ _ _ _ _ rfl rfl rfl rfl rfl (fun hg => op_len Tryz.underlying25 (.gd rfl hg)) ?_
  refine jg_gd _ _ _ _ _ _ rfl rfl rfl rfl rfl (fun hg => op_gtr (.gd rfl hg) (.base rfl)) ?_
  refine jg_adr _ rfl _ rfl rfl (op_pick_or (.base rfl) (.base rfl) rfl (by intro h; first | (rw [h]; rfl) | (rw [hg, h]; rfl) | (rw [h, hg]; rfl) | simp_all)) ?_
  refine jg_adr _ rfl _ rfl rfl (op_move (.base rfl)) ?_
  refine jg_gd _ _ _ _ _ _ rfl rfl rfl rfl rfl (fun hg => op_ofield fld27_3 (.base rfl)) ?_
  refine jg_gd _ _ _ _ _ _ rfl rfl rfl rfl rfl (fun hg => op_oload ty25 (.gd rfl hg) rfl rfl ln27_3) ?_
  refine jg_gd _ _ _ _ _ _ rfl rfl rfl rfl rfl (fun hg => op_len Tryz.underlying25 (.gd rfl hg)) ?_
  refine jg_gd _ _ _ _ _ _ rfl rfl rfl rfl rfl (fun hg => op_gtr (.gd rfl hg) (.base rfl)) ?_
  refine jg_adr _ rfl _ rfl rfl (op_pick_or (.base rfl) (.base rfl) rfl (by intro h; first | (rw [h]; rfl) | (rw [hg, h]; rfl) | (rw [h, hg]; rfl) | simp_all)) ?_
  refine jg_adr _ rfl _ rfl rfl (op_move (.base rfl)) ?_
  refine jg_gd _ _ _ _ _ _ rfl rfl rfl rfl rfl (fun hg => op_ofield fld27_4 (.base rfl)) ?_
  refine jg_gd _ _ _ _ _ _ rfl rfl rfl rfl rfl (fun hg => op_oload ty25 (.gd rfl hg) rfl rfl ln27_4) ?_
  refine jg_gd _ _ _ _ _ _ rfl rfl rfl rfl rfl (fun hg => op_len Tryz.underlying25 (.gd rfl hg)) ?_
  refine jg_gd _ _ _ _ _ _ rfl rfl rfl rfl rfl (fun hg => op_gtr (.gd rfl hg) (.base rfl)) ?_
  refine jg_adr _ rfl _ rfl rfl (op_pick_or (.base rfl) (.base rfl) rfl (by intro h; first | (rw [h]; rfl) | (rw [hg, h]; rfl) | (rw [h, hg]; rfl) | simp_all)) ?_
  refine jg_nil ?_
  refine jn_keep [3, 38] [3] (.cons rfl (.cons rfl .nil)) (.cons rfl .nil) ?_
  refine jn_seq ?_
  refine j_cond rfl (fun h1 => ?_) (fun h1 => ?_)
  · try simp at h1
    refine j_seq ?_
    refine j_region ?_
    refine jg_adr _ rfl _ rfl rfl (op_assign (.base rfl)) ?_
    refine jg_nil ?_
    refine jn_keep [4] [] (.cons rfl .nil) .nil ?_
    refine jn_seq (j_ret (jr_seq ?_))
    exact jr_fin1 Tryz.results4 (res_tmp rfl) rfl (rb (by unfold fewF; (try simp at h1); simp; omega))
  · try simp at h1
    refine j_skip (jn_seq (j_seq (j_seq ?_)))
    refine j_region ?_
    refine jg_adr _ rfl _ rfl rfl (op_assign (.base rfl)) ?_
    refine jg_nil ?_
    refine jn_keep [3, 5] [3] (.cons rfl (.cons rfl .nil)) (.cons rfl .nil) ?_
    refine jn_seq (j_block ?_)
    refine j_loopp (ι := Nat) (fun k => ⟨[(3, .optr 3 rSignature.n 0 0), (5, .raw (.int .i64 ((k : Nat))))], [(3, ⟨rSignature, [s]⟩)]⟩) (fun k => k ≤ s.1.length ∧ (s.1.drop k).all (fun x => !decide (40 < (x.2.length : Int))) = fewF e s) (fun k => s.1.length - k) 0 (⟨Nat.zero_le _, by unfold fewF; (try simp at h1); simp; omega⟩) (fun a w hi => (Sub.inv ⟨(by repeat (first | exact SubS_nil | refine SubS_cons rfl (by first | rfl | (simp; done) | assumption) ?_)), (by repeat (first | exact SubH_nil | refine SubH_cons rfl (by first | rfl | (simp; done) | assumption) ?_))⟩ hi)) ?_
    rintro k ⟨hk, hp⟩
    refine j_seq (j_seq ?_)
    refine j_region ?_
    refine jg_adr _ rfl _ rfl rfl (op_move (.base rfl)) ?_
    refine jg_adr _ rfl _ rfl rfl (op_ofield fld27_0 (.base rfl)) ?_
    refine jg_adr _ rfl _ rfl rfl (op_oload ty23 (.base rfl) rfl rfl ln27_0) ?_
    refine jg_adr _ rfl _ rfl rfl (op_len Tryz.underlying23 (.base rfl)) ?_
    refine jg_adr _ rfl _ rfl rfl (op_lss (.base rfl) (.base rfl)) ?_
    refine jg_nil ?_
    refine jn_keep [3, 5, 43] [3] (.cons rfl (.cons rfl (.cons rfl .nil))) (.cons rfl .nil) ?_
    refine jn_seq ?_
    refine j_cond rfl (fun h4 => ?_) (fun h4 => ?_)
    · try simp at h4
      refine j_skip (jn_seq (j_seq (j_block (j_seq ?_))))
      refine j_region ?_
      refine jg_adr _ rfl _ rfl rfl (op_ofield fld27_0 (.base rfl)) ?_
      refine jg_adr _ rfl _ rfl rfl (op_oload ty23 (.base rfl) rfl rfl ln27_0) ?_
      refine jg_adr _ rfl _ rfl rfl (op_move (.base rfl)) ?_
      refine jg_adr _ rfl _ rfl rfl (op_index Tryz.underlying23 ty52 (.base rfl) (.base rfl) rfl (List.getElem?_eq_getElem (by first | omega | (simp; done) | (simp; omega) | (simp at hg; omega)))) ?_
      refine jg_adr _ rfl _ rfl rfl (op_field fld52_1 ln52_1 (.base rfl)) ?_
      refine jg_adr _ rfl _ rfl rfl (op_load ty50 (.base rfl)) ?_
      refine jg_adr _ rfl _ rfl rfl (op_len Tryz.underlying50 (.base rfl)) ?_
      refine jg_adr _ rfl _ rfl rfl (op_gtr (.base rfl) (.base rfl)) ?_
      refine jg_nil ?_
      refine jn_keep [3, 5, 53] [3] (.cons rfl (.cons rfl (.cons rfl .nil))) (.cons rfl .nil) ?_
      refine jn_seq ?_
      refine j_cond rfl (fun h6 => ?_) (fun h6 => ?_)
      · try simp at h6
        refine j_seq ?_
        refine j_region ?_
        refine jg_adr _ rfl _ rfl rfl (op_assign (.base rfl)) ?_
        refine jg_nil ?_
        refine jn_keep [4] [] (.cons rfl .nil) .nil ?_
        refine jn_seq (j_ret (jr_blk (jr_seq (jr_loop (jr_blk (jr_seq ?_))))))
        exact jr_fin1 Tryz.results4 (res_tmp rfl) rfl (rb (by rw [← hp, List.drop_eq_getElem_cons h4, List.all_cons]; simp; omega))
      · try simp at h6
        refine j_skip (jn_blk (jn_seq ?_))
        refine j_region ?_
        refine jg_adr _ rfl _ rfl rfl (op_move (.base rfl)) ?_
        refine jg_adr _ rfl _ rfl rfl (op_add (.base rfl) (.base rfl) (w64 (by omega))) ?_
        refine jg_adr _ rfl _ rfl rfl (op_assign (.base rfl)) ?_
        refine jg_nil ?_
        refine jn_keep [3, 5] [3] (.cons rfl (.cons rfl .nil)) (.cons rfl .nil) ?_
        exact jn_loop (fun a w hi => ⟨k + 1, (by first | omega | (simp; omega)), (⟨by omega, by rw [← hp, List.drop_eq_getElem_cons h4, List.all_cons]; simp; omega⟩), (Sub.inv ⟨(by repeat (first | exact SubS_nil | refine SubS_cons rfl (by first | rfl | (simp; done) | assumption) ?_)), (by repeat (first | exact SubH_nil | refine SubH_cons rfl (by first | rfl | (simp; done) | assumption) ?_))⟩ hi)⟩)
    · try simp at h4
      refine j_exit (je_seq (je_loop (je_blk (jn_seq (j_seq ?_)))))
      refine j_region ?_
      refine jg_adr _ rfl _ rfl rfl (op_assign (.base rfl)) ?_
      refine jg_nil ?_
      refine jn_keep [4] [] (.cons rfl .nil) .nil ?_
      refine jn_seq (j_ret ?_)
      exact jr_fin1 Tryz.results4 (res_tmp rfl) rfl (rb (by rw [← hp, List.drop_of_length_le (by omega)]; rfl))

theorem awake_ok  : Ct Tryz.prog 7 [] (.raw (.bool true)) := by
  refine ct_intro Tryz.func7 rfl rfl Tryz.ntmps7 rfl rfl ?_
  intro w0 ok0
  refine j_seq ?_
  refine j_region ?_
  refine jg_adr _ rfl _ rfl rfl (op_assign (.base rfl)) ?_
  refine jg_nil ?_
  refine jn_keep [] [] .nil .nil ?_
  refine jn_seq (j_seq ?_)
  refine j_region ?_
  refine jg_adr _ rfl _ rfl rfl (op_build z56 rfl pl56 (.cons (rt' := (rInt .i64)) rfl ln56_0 (.raw (.base rfl) rfl) .nil)) ?_
  refine jg_adr _ rfl _ rfl rfl (op_build z56 rfl pl56 (.cons (rt' := (rInt .i64)) rfl ln56_0 (.raw (.base rfl) rfl) (.cons (rt' := (rInt .i64)) rfl ln56_1 (.raw (.base rfl) rfl) .nil))) ?_
  refine jg_adr _ rfl _ rfl rfl (op_build z56 rfl pl56 (.cons (rt' := (rInt .i64)) rfl ln56_0 (.raw (.base rfl) rfl) .nil)) ?_
  refine jg_adr _ rfl _ rfl rfl (op_bslice (rt := rNode) Tryz.underlying22 ty56 z56 rfl (.cons (.tv (.base rfl)) (.cons (.tv (.base rfl)) (.cons (.tv (.base rfl)) .nil))) rfl rfl) ?_
  refine jg_adr _ rfl _ rfl rfl (op_assign (.base rfl)) ?_
  refine jg_nil ?_
  refine jn_keep [1] [] (.cons rfl .nil) .nil ?_
  refine jn_seq (j_seq ?_)
  refine j_region ?_
  refine jg_adr _ rfl _ rfl rfl (op_build z56 rfl pl56 (.cons (rt' := (rInt .i64)) rfl ln56_0 (.raw (.base rfl) rfl) .nil)) ?_
  refine jg_adr _ rfl _ rfl rfl (op_build z56 rfl pl56 (.cons (rt' := (rInt .i64)) rfl ln56_0 (.raw (.base rfl) rfl) (.cons (rt' := (rInt .i64)) rfl ln56_1 (.raw (.base rfl) rfl) .nil))) ?_
  refine jg_adr _ rfl _ rfl rfl (op_build z56 rfl pl56 (.cons (rt' := (rInt .i64)) rfl ln56_0 (.raw (.base rfl) rfl) .nil)) ?_
  refine jg_adr _ rfl _ rfl rfl (op_bslice (rt := rNode) Tryz.underlying22 ty56 z56 rfl (.cons (.tv (.base rfl)) (.cons (.tv (.base rfl)) (.cons (.tv (.base rfl)) .nil))) rfl rfl) ?_
  refine jg_adr _ rfl _ rfl rfl (op_assign (.base rfl)) ?_
  refine jg_nil ?_
  refine jn_keep [1, 2] [] (.cons rfl (.cons rfl .nil)) .nil ?_
  refine jn_seq (j_seq ?_)
  refine j_region ?_
  refine jg_adr _ rfl _ rfl rfl (op_build z37 rfl pl37 (.cons (rt' := (rInt .i64)) rfl ln37_0 (.raw (.base rfl) rfl) .nil)) ?_
  refine jg_os _ rfl (op_alloc _ z37 rfl rfl rfl) ?_
  refine jg_os _ rfl (op_ostore ty37 (.base rfl) rfl rfl (Lens.id _) (.tv (.base rfl))) ?_
  refine jg_nil ?_
  refine jn_keep [1, 2, 3] [3] (.cons rfl (.cons rfl (.cons rfl .nil))) (.cons rfl .nil) ?_
  refine jn_seq (j_seq ?_)
  refine j_region ?_
  refine jg_adr _ rfl _ rfl rfl (op_oload ty37 (.base rfl) rfl rfl (Lens.id _)) ?_
  refine jg_adr _ rfl _ rfl rfl (op_oload ty37 (.base rfl) rfl rfl (Lens.id _)) ?_
  refine jg_adr _ rfl _ rfl rfl (op_bslice (rt := rType) Tryz.underlying25 ty37 z37 rfl (.cons (.tv (.base rfl)) (.cons (.tv (.base rfl)) .nil)) rfl rfl) ?_
  refine jg_adr _ rfl _ rfl rfl (op_build z27 rfl pl27 (.cons (rt' := (rSlice rType)) rfl ln27_2 (.tv (.base rfl)) .nil)) ?_
  refine jg_os _ rfl (op_alloc _ z27 rfl rfl rfl) ?_
  refine jg_os _ rfl (op_ostore ty27 (.base rfl) rfl rfl (Lens.id _) (.tv (.base rfl))) ?_
  refine jg_nil ?_
  refine jn_keep [1, 2, 3, 4] [3, 4] (.cons rfl (.cons rfl (.cons rfl (.cons rfl .nil)))) (.cons rfl (.cons rfl .nil)) ?_
  refine jn_seq (j_seq ?_)
  refine j_region ?_
  refine jg_adr _ rfl _ rfl rfl (op_move (.base rfl)) ?_
  refine jg_adr _ rfl _ rfl rfl (op_bslice (rt := (rSlice rNode)) Tryz.underlying39 ty22 z22 rfl (.cons (.tv (.base rfl)) .nil) rfl rfl) ?_
  refine jg_adr _ rfl _ rfl rfl (op_call (cutPoints_ok _ _ (by decide) (by decide) (by decide) (by decide)) (.cons (.base rfl) (.cons (.base rfl) .nil)) rfl rfl) ?_
  refine jg_adr _ rfl _ rfl rfl (op_assign (.base rfl)) ?_
  refine jg_nil ?_
  refine jn_keep [1, 2, 3, 4, 5] [3, 4] (.cons rfl (.cons rfl (.cons rfl (.cons rfl (.cons rfl .nil))))) (.cons rfl (.cons rfl .nil)) ?_
  refine jn_seq (j_seq ?_)
  refine j_region ?_
  refine jg_adr _ rfl _ rfl rfl (op_move (.base rfl)) ?_
  refine jg_adr _ rfl _ rfl rfl (op_oload ty27 (.base rfl) rfl rfl (Lens.id _)) ?_
  refine jg_adr _ rfl _ rfl rfl (op_call (isFlat_ok _ _ (by decide)) (.cons (.base rfl) (.cons (.base rfl) .nil)) rfl rfl) ?_
  refine jg_adr _ rfl _ rfl rfl (op_move (.base rfl)) ?_
  refine jg_gd _ _ _ _ _ _ rfl rfl rfl rfl rfl (fun hg => op_move (.base rfl)) ?_
  refine jg_gd _ _ _ _ _ _ rfl rfl rfl rfl rfl (fun hg => op_oload ty27 (.base rfl) rfl rfl (Lens.id _)) ?_
  refine jg_gd _ _ _ _ _ _ rfl rfl rfl rfl rfl (fun hg => op_call (isFlat_ok _ _ (by decide)) (.cons (.gd rfl hg) (.cons (.gd rfl hg) .nil)) rfl rfl) ?_
  refine jg_gd _ _ _ _ _ _ rfl rfl rfl rfl rfl (fun hg => op_not (.gd rfl hg)) ?_
  refine jg_adr _ rfl _ rfl rfl (op_pick_and (.base rfl) (.base rfl) rfl (by intro h; first | (rw [h]; rfl) | (rw [hg, h]; rfl) | (rw [h, hg]; rfl) | simp_all)) ?_
  refine jg_adr _ rfl _ rfl rfl (op_move (.base rfl)) ?_
  refine jg_gd _ _ _ _ _ _ rfl rfl rfl rfl rfl (fun hg => op_move (.base rfl)) ?_
  refine jg_gd _ _ _ _ _ _ rfl rfl rfl rfl rfl (fun hg => op_bslice (rt := (rInt .i64)) Tryz.underlying28 ty3 z3 rfl (.cons (.raw (.base rfl) rfl) (.cons (.raw (.base rfl) rfl) .nil)) rfl rfl) ?_
  refine jg_gd _ _ _ _ _ _ rfl rfl rfl rfl rfl (fun hg => op_call (same_ints _ _) (.cons (.gd rfl hg) (.cons (.gd rfl hg) .nil)) rfl rfl) ?_
  refine jg_adr _ rfl _ rfl rfl (op_pick_and (.base rfl) (.base rfl) rfl (by intro h; first | (rw [h]; rfl) | (rw [hg, h]; rfl) | (rw [h, hg]; rfl) | simp_all)) ?_
  refine jg_adr _ rfl _ rfl rfl (op_move (.base rfl)) ?_
  refine jg_gd _ _ _ _ _ _ rfl rfl rfl rfl rfl (fun hg => op_oload ty37 (.base rfl) rfl rfl (Lens.id _)) ?_
  refine jg_gd _ _ _ _ _ _ rfl rfl rfl rfl rfl (fun hg => op_move (.base rfl)) ?_
  refine jg_gd _ _ _ _ _ _ rfl rfl rfl rfl rfl (fun hg => op_call (reps_ok _ _ _ (by rw [uniqS_I]; decide) (by decide)) (.cons (.gd rfl hg) (.nilS (.base rfl) (.cons (.gd rfl hg) .nil))) rfl rfl) ?_
  refine jg_gd _ _ _ _ _ _ rfl rfl rfl rfl rfl (fun hg => op_bslice (rt := (rInt .i64)) Tryz.underlying28 ty3 z3 rfl (.cons (.raw (.base rfl) rfl) (.cons (.raw (.base rfl) rfl) (.cons (.raw (.base rfl) rfl) .nil))) rfl rfl) ?_
  refine jg_gd _ _ _ _ _ _ rfl rfl rfl rfl rfl (fun hg => op_call (same_ints _ _) (.cons (.gd rfl hg) (.cons (.gd rfl hg) .nil)) rfl rfl) ?_
  refine jg_adr _ rfl _ rfl rfl (op_pick_and (.base rfl) (.base rfl) rfl (by intro h; first | (rw [h]; rfl) | (rw [hg, h]; rfl) | (rw [h, hg]; rfl) | simp_all)) ?_
  refine jg_adr _ rfl _ rfl rfl (op_move (.base rfl)) ?_
  refine jg_gd _ _ _ _ _ _ rfl rfl rfl rfl rfl (fun hg => op_bslice (rt := (rInt .i64)) Tryz.underlying28 ty3 z3 rfl (.cons (.raw (.base rfl) rfl) (.cons (.raw (.base rfl) rfl) (.cons (.raw (.base rfl) rfl) .nil))) rfl rfl) ?_
  refine jg_gd _ _ _ _ _ _ rfl rfl rfl rfl rfl (fun hg => op_call (locate_ok _ _) (.cons (.gd rfl hg) (.cons (.base rfl) .nil)) rfl rfl) ?_
  refine jg_gd _ _ _ _ _ _ rfl rfl rfl rfl rfl (fun hg => op_eql (.gd rfl hg) (.base rfl)) ?_
  refine jg_adr _ rfl _ rfl rfl (op_pick_and (.base rfl) (.base rfl) rfl (by intro h; first | (rw [h]; rfl) | (rw [hg, h]; rfl) | (rw [h, hg]; rfl) | simp_all)) ?_
  refine jg_adr _ rfl _ rfl rfl (op_move (.base rfl)) ?_
  refine jg_gd _ _ _ _ _ _ rfl rfl rfl rfl rfl (fun hg => op_bslice (rt := (rInt .i64)) Tryz.underlying28 ty3 z3 rfl (.cons (.raw (.base rfl) rfl) (.cons (.raw (.base rfl) rfl) (.cons (.raw (.base rfl) rfl) .nil))) rfl rfl) ?_
  refine jg_gd _ _ _ _ _ _ rfl rfl rfl rfl rfl (fun hg => op_call (locate_ok _ _) (.cons (.gd rfl hg) (.cons (.base rfl) .nil)) rfl rfl) ?_
  refine jg_gd _ _ _ _ _ _ rfl rfl rfl rfl rfl (fun hg => op_eql (.gd rfl hg) (.base rfl)) ?_
  refine jg_adr _ rfl _ rfl rfl (op_pick_and (.base rfl) (.base rfl) rfl (by intro h; first | (rw [h]; rfl) | (rw [hg, h]; rfl) | (rw [h, hg]; rfl) | simp_all)) ?_
  refine jg_adr _ rfl _ rfl rfl (op_move (.base rfl)) ?_
  refine jg_gd _ _ _ _ _ _ rfl rfl rfl rfl rfl (fun hg => op_bslice (rt := (rInt .i64)) Tryz.underlying28 ty3 z3 rfl (.cons (.raw (.base rfl) rfl) (.cons (.raw (.base rfl) rfl) (.cons (.raw (.base rfl) rfl) .nil))) rfl rfl) ?_
  refine jg_gd _ _ _ _ _ _ rfl rfl rfl rfl rfl (fun hg => op_bslice (rt := (rInt .i64)) Tryz.underlying28 ty3 z3 rfl (.cons (.raw (.base rfl) rfl) (.cons (.raw (.base rfl) rfl) .nil)) rfl rfl) ?_
  refine jg_gd _ _ _ _ _ _ rfl rfl rfl rfl rfl (fun hg => op_bslice (rt := (rSlice (rInt .i64))) Tryz.underlying62 ty28 z28 rfl (.cons (.tv (.gd rfl hg)) (.cons (.tv (.gd rfl hg)) .nil)) rfl rfl) ?_
  refine jg_gd _ _ _ _ _ _ rfl rfl rfl rfl rfl (fun hg => op_call (count_ok _ (by decide)) (.cons (.gd rfl hg) .nil) rfl rfl) ?_
  refine jg_gd _ _ _ _ _ _ rfl rfl rfl rfl rfl (fun hg => op_eql (.gd rfl hg) (.base rfl)) ?_
  refine jg_adr _ rfl _ rfl rfl (op_pick_and (.base rfl) (.base rfl) rfl (by intro h; first | (rw [h]; rfl) | (rw [hg, h]; rfl) | (rw [h, hg]; rfl) | simp_all)) ?_
  refine jg_adr _ rfl _ rfl rfl (op_assign (.base rfl)) ?_
  refine jg_nil ?_
  refine jn_keep [0] [] (.cons rfl .nil) .nil ?_
  refine jn_seq (j_ret ?_)
  exact jr_fin1 Tryz.results7 (res_tmp rfl) rfl (rb (by simp only [uniqS_I, repsF]; kernel_rfl))






end Go.Proofs.YtgoggdaohdablaaGreat
