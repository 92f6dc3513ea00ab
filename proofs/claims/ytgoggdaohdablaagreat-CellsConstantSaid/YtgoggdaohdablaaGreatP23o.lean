import Derived.Test.YtgoggdaohdablaaGreatP23n
namespace Go.Proofs.YtgoggdaohdablaaGreat
open Go.Eng
set_option maxRecDepth 100000
set_option maxHeartbeats 4000000
set_option linter.unusedVariables false
set_option linter.unusedSimpArgs false


theorem flat_typed {e : List TNode} {s : TSignature} (h : isFlat e s = true) : (typeOf e s).2.2 = 0 ∧ (typeOf e s).1 = (1, 0) ∧ ∀ i, i < e.length → flatAt e i = true := by
  unfold isFlat at h
  rw [Bool.and_eq_true, List.all_eq_true] at h
  obtain ⟨h1, h2⟩ := h
  simp at h1
  exact ⟨h1.1, h1.2, fun i hi => h2 i (List.mem_range.2 hi)⟩
theorem few_small {e : List TNode} {s : TSignature} (h : fewF e s = true) : e.length ≤ 60 ∧ s.2.2.1.length ≤ 20 := by
  unfold fewF at h; simp at h; omega
theorem bounds_13 {t : TType} {en : List TEnum} (hen : en.length ≤ 8 ∧ ∀ q ∈ en, q.2.length ≤ 16) (hv : validType t en = true) {m : Int} (h0 : (bounds t en).1 ≤ m) (h1 : m ≤ (bounds t en).2) : plaus (t.1, t.2, m) = true := by
  unfold bounds at h0 h1
  rw [if_neg (by rw [hv]; simp)] at h0 h1
  unfold validType at hv
  by_cases q : 1 ≤ t.1 ∧ t.1 ≤ 5
  · rw [if_pos q] at hv
    have hv : t.2 = 0 := by simpa using hv
    have : t.1 = 1 ∨ t.1 = 2 ∨ t.1 = 3 ∨ t.1 = 4 ∨ t.1 = 5 := by omega
    rcases this with z | z | z | z | z <;> simp [z] at h0 h1 <;> simp [plaus, bnd13, z, hv] <;> omega
  · rw [if_neg q] at hv
    split at hv
    · rename_i q6
      simp at hv
      simp [q6] at h0 h1
      have hm : memb en t.2 ≤ 16 := by
        unfold memb
        rw [List.getElem?_eq_getElem (show t.2.toNat < en.length by omega)]
        have := hen.2 _ (List.getElem_mem (show t.2.toNat < en.length by omega))
        simp; omega
      simp [plaus, bnd13, q6]; omega
    · cases hv
theorem flat_of {e : List TNode} {s : TSignature} {l : List Int} (hf : isFlat e s = true) (hl : limF s.1 = true) (hv : (valsF s l).2 = true) : ∃ ty, Flat e s ty (valsF s l).1 := by
  obtain ⟨t1, t2, t3⟩ := flat_typed hf
  obtain ⟨ty, h1, h2, h3⟩ := typed t1
  have hen := limF_iff.1 hl
  unfold valsF at hv ⊢
  split at hv
  · rename_i hall
    rw [if_pos hall]
    have hv : min s.2.2.1.length l.length = s.2.2.1.length := by simpa using hv
    refine ⟨ty, ⟨hen, h1, h2, by rw [← h3, t2], t3, by simp only [valsK_len]; exact hv, fun i hi hi2 => ?_⟩⟩
    have hl2 : i < l.length := by omega
    have hva := hall i (by omega)
    have e1 : (valsK s l (min s.2.2.1.length l.length))[i]? = some (vAt s l i) := by unfold valsK; rw [List.getElem?_map, List.getElem?_range (by omega)]; rfl
    have hi' : i < (valsK s l (min s.2.2.1.length l.length)).length := hi
    rw [List.getElem?_eq_getElem hi'] at e1
    injection e1 with e1
    show ((valsK s l (min s.2.2.1.length l.length))[i]'hi').1 = _ ∧ _
    rw [e1]
    rw [vAt_get hi2 hl2] at hva ⊢
    unfold valid9 inB at hva
    simp only [Bool.and_eq_true, decide_eq_true_eq] at hva
    have ep : ((s.2.2.1[i]).1, (s.2.2.1[i]).2) = s.2.2.1[i] := rfl
    exact ⟨rfl, rfl, bounds_13 hen hva.1 hva.2.1 hva.2.2, hva.2.1, hva.2.2⟩
  · cases hv

theorem law_const (e : List TNode) (s : TSignature) (la lb : List Int) (hm : ∀ d ∈ e, d.2 ≤ 9223372036854775807) (hmn : ∀ d ∈ e, -9223372036854775808 ≤ d.2) : Ct Tryz.prog 3 [.tv (rSlice rNode) e, .tv rSignature s, .tv (rSlice (rInt .i64)) la, .tv (rSlice (rInt .i64)) lb] (.raw (.bool true)) := by
  refine ct_intro Tryz.func3 rfl rfl Tryz.ntmps3 rfl rfl ?_
  intro w0 ok0
  refine j_seq ?_
  refine j_region ?_
  refine jg_os _ rfl (op_box (.tv (.base rfl)) rfl rfl rfl) ?_
  refine jg_adr _ rfl _ rfl rfl (op_assign (.base rfl)) ?_
  refine jg_nil ?_
  refine jn_keep [0, 2, 3, 5] [5] (.cons rfl (.cons rfl (.cons rfl (.cons rfl .nil)))) (.cons rfl .nil) ?_
  refine jn_seq (j_seq (j_seq ?_))
  refine j_region ?_
  refine jg_adr _ rfl _ rfl rfl (op_move (.base rfl)) ?_
  refine jg_adr _ rfl _ rfl rfl (op_oload ty27 (.base rfl) rfl rfl (Lens.id _)) ?_
  refine jg_adr _ rfl _ rfl rfl (op_call (few_ok _ _) (.cons (.base rfl) (.cons (.base rfl) .nil)) rfl rfl) ?_
  refine jg_adr _ rfl _ rfl rfl (op_not (.base rfl)) ?_
  refine jg_adr _ rfl _ rfl rfl (op_move (.base rfl)) ?_
  refine jg_gd _ _ _ _ _ _ rfl rfl rfl rfl rfl (fun hg => op_ofield fld27_0 (.base rfl)) ?_
  refine jg_gd _ _ _ _ _ _ rfl rfl rfl rfl rfl (fun hg => op_oload ty23 (.gd rfl hg) rfl rfl ln27_0) ?_
  refine jg_gd _ _ _ _ _ _ rfl rfl rfl rfl rfl (fun hg => op_call (limited_ok _) (.cons (.gd rfl hg) .nil) rfl rfl) ?_
  refine jg_gd _ _ _ _ _ _ rfl rfl rfl rfl rfl (fun hg => op_not (.gd rfl hg)) ?_
  refine jg_adr _ rfl _ rfl rfl (op_pick_or (.base rfl) (.base rfl) rfl (by intro h; first | (rw [h]; rfl) | (rw [hg, h]; rfl) | (rw [h, hg]; rfl) | simp_all)) ?_
  refine jg_adr _ rfl _ rfl rfl (op_move (.base rfl)) ?_
  refine jg_gd _ _ _ _ _ _ rfl rfl rfl rfl rfl (fun hg => op_move (.base rfl)) ?_
  refine jg_gd _ _ _ _ _ _ rfl rfl rfl rfl rfl (fun hg => op_oload ty27 (.base rfl) rfl rfl (Lens.id _)) ?_
  refine jg_gd _ _ _ _ _ _ rfl rfl rfl rfl rfl (fun hg => op_call (isFlat_ok _ _ hm) (.cons (.gd rfl hg) (.cons (.gd rfl hg) .nil)) rfl rfl) ?_
  refine jg_gd _ _ _ _ _ _ rfl rfl rfl rfl rfl (fun hg => op_not (.gd rfl hg)) ?_
  refine jg_adr _ rfl _ rfl rfl (op_pick_or (.base rfl) (.base rfl) rfl (by intro h; first | (rw [h]; rfl) | (rw [hg, h]; rfl) | (rw [h, hg]; rfl) | simp_all)) ?_
  refine jg_nil ?_
  refine jn_keep [0, 2, 3, 5, 34] [5] (.cons rfl (.cons rfl (.cons rfl (.cons rfl (.cons rfl .nil))))) (.cons rfl .nil) ?_
  refine jn_seq ?_
  refine j_cond rfl (fun h1 => ?_) (fun h1 => ?_)
  · skip
    refine j_seq ?_
    refine j_region ?_
    refine jg_adr _ rfl _ rfl rfl (op_call awake_ok .nil rfl rfl) ?_
    refine jg_adr _ rfl _ rfl rfl (op_assign (.base rfl)) ?_
    refine jg_nil ?_
    refine jn_keep [8] [] (.cons rfl .nil) .nil ?_
    refine jn_seq (j_ret (jr_seq ?_))
    exact jr_fin1 Tryz.results3 (res_tmp rfl) rfl (rb (by first | rfl | (simp; done)))
  · have h1 : fewF e s = true ∧ limF s.1 = true ∧ isFlat e s = true := by simp at h1; exact ⟨h1.1.1, h1.1.2, h1.2⟩
    obtain ⟨g1, g2, g3⟩ := h1
    have hsm := few_small g1
    have hen : ∀ x ∈ s.1, x.2.length ≤ 100000 := few_mem g1
    refine j_skip (jn_seq (j_seq ?_))
    refine j_region ?_
    refine jg_adr _ rfl _ rfl rfl (op_oload ty27 (.base rfl) rfl rfl (Lens.id _)) ?_
    refine jg_adr _ rfl _ rfl rfl (op_move (.base rfl)) ?_
    refine jg_adr _ rfl _ rfl rfl (op_call (values_ok _ _ (by omega)) (.cons (.base rfl) (.cons (.base rfl) .nil)) rfl rfl) ?_
    refine jg_adr _ rfl _ rfl rfl (op_move (.base rfl)) ?_
    refine jg_adr _ rfl _ rfl rfl (op_ext20 (.base rfl)) ?_
    refine jg_adr _ rfl _ rfl rfl (op_ext21 (.base rfl)) ?_
    refine jg_adr _ rfl _ rfl rfl (op_assign (.base rfl)) ?_
    refine jg_adr _ rfl _ rfl rfl (op_assign (.base rfl)) ?_
    refine jg_nil ?_
    refine jn_keep [0, 3, 5, 9, 10] [5] (.cons rfl (.cons rfl (.cons rfl (.cons rfl (.cons rfl .nil))))) (.cons rfl .nil) ?_
    refine jn_seq (j_seq ?_)
    refine j_region ?_
    refine jg_adr _ rfl _ rfl rfl (op_oload ty27 (.base rfl) rfl rfl (Lens.id _)) ?_
    refine jg_adr _ rfl _ rfl rfl (op_move (.base rfl)) ?_
    refine jg_adr _ rfl _ rfl rfl (op_call (values_ok _ _ (by omega)) (.cons (.base rfl) (.cons (.base rfl) .nil)) rfl rfl) ?_
    refine jg_adr _ rfl _ rfl rfl (op_move (.base rfl)) ?_
    refine jg_adr _ rfl _ rfl rfl (op_ext20 (.base rfl)) ?_
    refine jg_adr _ rfl _ rfl rfl (op_ext21 (.base rfl)) ?_
    refine jg_adr _ rfl _ rfl rfl (op_assign (.base rfl)) ?_
    refine jg_adr _ rfl _ rfl rfl (op_assign (.base rfl)) ?_
    refine jg_nil ?_
    refine jn_keep [0, 5, 9, 10, 11, 12] [5] (.cons rfl (.cons rfl (.cons rfl (.cons rfl (.cons rfl (.cons rfl .nil)))))) (.cons rfl .nil) ?_
    refine jn_seq (j_seq (j_seq ?_))
    refine j_region ?_
    refine jg_adr _ rfl _ rfl rfl (op_move (.base rfl)) ?_
    refine jg_adr _ rfl _ rfl rfl (op_not (.base rfl)) ?_
    refine jg_adr _ rfl _ rfl rfl (op_move (.base rfl)) ?_
    refine jg_gd _ _ _ _ _ _ rfl rfl rfl rfl rfl (fun hg => op_move (.base rfl)) ?_
    refine jg_gd _ _ _ _ _ _ rfl rfl rfl rfl rfl (fun hg => op_not (.gd rfl hg)) ?_
    refine jg_adr _ rfl _ rfl rfl (op_pick_or (.base rfl) (.base rfl) rfl (by intro h; first | (rw [h]; rfl) | (rw [hg, h]; rfl) | (rw [h, hg]; rfl) | simp_all)) ?_
    refine jg_nil ?_
    refine jn_keep [0, 5, 9, 11, 53] [5] (.cons rfl (.cons rfl (.cons rfl (.cons rfl (.cons rfl .nil))))) (.cons rfl .nil) ?_
    refine jn_seq ?_
    refine j_cond rfl (fun h5 => ?_) (fun h5 => ?_)
    · skip
      refine j_seq ?_
      refine j_region ?_
      refine jg_adr _ rfl _ rfl rfl (op_call awake_ok .nil rfl rfl) ?_
      refine jg_adr _ rfl _ rfl rfl (op_assign (.base rfl)) ?_
      refine jg_nil ?_
      refine jn_keep [8] [] (.cons rfl .nil) .nil ?_
      refine jn_seq (j_ret (jr_seq ?_))
      exact jr_fin1 Tryz.results3 (res_tmp rfl) rfl (rb (by first | rfl | (simp; done)))
    · have h5 : (valsF s la).2 = true ∧ (valsF s lb).2 = true := by simp at h5; exact h5
      obtain ⟨ty, F⟩ := flat_of g3 g2 h5.1
      obtain ⟨ty2, G0⟩ := flat_of g3 g2 h5.2
      have G : Flat e s ty (valsF s lb).1 := ⟨G0.en, G0.len, F.typ, F.top, G0.flat, G0.xl, G0.xv⟩
      have hxl := F.xl
      have hyl := G.xl
      refine j_skip (jn_seq (j_seq (j_seq ?_)))
      refine j_region ?_
      refine jg_adr _ rfl _ rfl rfl (op_assign (.base rfl)) ?_
      refine jg_nil ?_
      refine jn_keep [0, 5, 9, 11, 13] [5] (.cons rfl (.cons rfl (.cons rfl (.cons rfl (.cons rfl .nil))))) (.cons rfl .nil) ?_
      refine jn_seq (j_block ?_)
      refine j_loopp (ι := Nat) (fun k => ⟨[(0, .tv (rSlice rNode) e), (5, .optr 5 rSignature.n 0 0), (9, .tv (rSlice rValue) (valsF s la).1), (11, .tv (rSlice rValue) (valsF s lb).1), (13, .raw (.int .i64 ((k : Nat))))], [(5, ⟨rSignature, [s]⟩)]⟩) (fun k => k ≤ (valsF s la).1.length ∧ ∀ j, j < k → ∀ (h1 : j < (valsF s la).1.length) (h2 : j < (valsF s lb).1.length) (h3 : j < s.2.2.1.length), locateF (repsF (s.2.2.1[j]) s.1 (uniqS (gK [e] (j : Int) 1))) (valsF s la).1[j].2.2 = locateF (repsF (s.2.2.1[j]) s.1 (uniqS (gK [e] (j : Int) 1))) (valsF s lb).1[j].2.2) (fun k => (valsF s la).1.length - k) 0 (⟨Nat.zero_le _, fun j hj => absurd hj (by omega)⟩) (fun a w hi => (Sub.inv ⟨(by repeat (first | exact SubS_nil | refine SubS_cons rfl (by first | rfl | (simp; done) | assumption) ?_)), (by repeat (first | exact SubH_nil | refine SubH_cons rfl (by first | rfl | (simp; done) | assumption) ?_))⟩ hi)) ?_
      rintro k ⟨hk, hp⟩
      have hcl : (uniqS (gK [e] (k : Int) [e].length)).length ≤ 10000 := by
        have q := gK_len (gs := [e]) (k : Int) (by intro q hq; simp at hq; subst hq; omega) [e].length
        have q2 := uniqS_len (gK [e] (k : Int) [e].length)
        simp at q q2 ⊢; omega
      refine j_seq (j_seq ?_)
      refine j_region ?_
      refine jg_adr _ rfl _ rfl rfl (op_move (.base rfl)) ?_
      refine jg_adr _ rfl _ rfl rfl (op_move (.base rfl)) ?_
      refine jg_adr _ rfl _ rfl rfl (op_len Tryz.underlying32 (.base rfl)) ?_
      refine jg_adr _ rfl _ rfl rfl (op_lss (.base rfl) (.base rfl)) ?_
      refine jg_nil ?_
      refine jn_keep [0, 5, 9, 11, 13, 58] [5] (.cons rfl (.cons rfl (.cons rfl (.cons rfl (.cons rfl (.cons rfl .nil)))))) (.cons rfl .nil) ?_
      refine jn_seq ?_
      refine j_cond rfl (fun h8 => ?_) (fun h8 => ?_)
      · have h8 : k < (valsF s la).1.length := by simpa using h8
        have h8b : k < (valsF s lb).1.length := by omega
        have h8c : k < s.2.2.1.length := by omega
        refine j_skip (jn_seq (j_seq (j_block (j_seq ?_))))
        refine j_draw mo (by kernel_rfl) (
          AS.cons _ _ rfl (ga_adr rfl rfl rfl (op_ofield fld27_2 (.base rfl))) (
            AS.cons _ _ rfl (ga_adr rfl rfl rfl (op_oload ty25 (.base rfl) rfl rfl ln27_2)) (
            AS.cons _ _ rfl (ga_adr rfl rfl rfl (op_move (.base rfl))) (
            AS.cons _ _ rfl (ga_adr rfl rfl rfl (op_index Tryz.underlying25 ty37 (.base rfl) (.base rfl) rfl (List.getElem?_eq_getElem (by first | omega | (simp; done) | (simp; omega) | (simp at hg; omega))))) (
            AS.cons _ _ rfl (ga_adr rfl rfl rfl (op_load ty37 (.base rfl))) (
            AS.cons _ _ rfl (ga_adr rfl rfl rfl (op_ofield fld27_0 (.base rfl))) (
            AS.cons _ _ rfl (ga_adr rfl rfl rfl (op_oload ty23 (.base rfl) rfl rfl ln27_0)) (
            AS.cons _ _ rfl (ga_adr rfl rfl rfl (op_move (.base rfl))) (
            AS.cons _ _ rfl (ga_adr rfl rfl rfl (op_bslice (rt := (rSlice rNode)) Tryz.underlying39 ty22 z22 rfl (.cons (.tv (.base rfl)) .nil) rfl rfl)) (
            AS.cons _ _ rfl (ga_adr rfl rfl rfl (op_move (.base rfl))) (
            AS.cons _ _ rfl (ga_adr rfl rfl rfl (op_call (cutPoints_ok _ _ (by simp) (by intro q hq; simp at hq; subst hq; omega) (by intro q hq; simp at hq; subst hq; exact hm) (by intro q hq; simp at hq; subst hq; exact hmn)) (.cons (.base rfl) (.cons (.base rfl) .nil)) rfl rfl)) (
            AS.cons _ _ rfl (ga_adr rfl rfl rfl (op_call (reps_ok _ _ _ hcl hen) (.cons (.base rfl) (.cons (.base rfl) (.cons (.base rfl) .nil))) rfl rfl)) (
            AS.cons _ _ rfl (ga_adr rfl rfl rfl (op_assign (.base rfl))) (
            AS.nil)))))))))))))) ?_
        refine jn_keep [0, 5, 9, 11, 13, 14] [5] (.cons rfl (.cons rfl (.cons rfl (.cons rfl (.cons rfl (.cons rfl .nil)))))) (.cons rfl .nil) ?_
        refine jn_seq (j_seq ?_)
        refine j_draw mo (by kernel_rfl) (
          AS.cons _ _ rfl (ga_adr rfl rfl rfl (op_move (.base rfl))) (
            AS.cons _ _ rfl (ga_adr rfl rfl rfl (op_move (.base rfl))) (
            AS.cons _ _ rfl (ga_adr rfl rfl rfl (op_move (.base rfl))) (
            AS.cons _ _ rfl (ga_adr rfl rfl rfl (op_index Tryz.underlying32 ty42 (.base rfl) (.base rfl) rfl (List.getElem?_eq_getElem (by first | omega | (simp; done) | (simp; omega) | (simp at hg; omega))))) (
            AS.cons _ _ rfl (ga_adr rfl rfl rfl (op_field fld42_2 ln42_2 (.base rfl))) (
            AS.cons _ _ rfl (ga_adr rfl rfl rfl (op_load ty3 (.base rfl))) (
            AS.cons _ _ rfl (ga_adr rfl rfl rfl (op_call (locate_ok _ _) (.cons (.base rfl) (.cons (.base rfl) .nil)) rfl rfl)) (
            AS.cons _ _ rfl (ga_adr rfl rfl rfl (op_move (.base rfl))) (
            AS.cons _ _ rfl (ga_adr rfl rfl rfl (op_move (.base rfl))) (
            AS.cons _ _ rfl (ga_adr rfl rfl rfl (op_move (.base rfl))) (
            AS.cons _ _ rfl (ga_adr rfl rfl rfl (op_index Tryz.underlying32 ty42 (.base rfl) (.base rfl) rfl (List.getElem?_eq_getElem (by first | omega | (simp; done) | (simp; omega) | (simp at hg; omega))))) (
            AS.cons _ _ rfl (ga_adr rfl rfl rfl (op_field fld42_2 ln42_2 (.base rfl))) (
            AS.cons _ _ rfl (ga_adr rfl rfl rfl (op_load ty3 (.base rfl))) (
            AS.cons _ _ rfl (ga_adr rfl rfl rfl (op_call (locate_ok _ _) (.cons (.base rfl) (.cons (.base rfl) .nil)) rfl rfl)) (
            AS.cons _ _ rfl (ga_adr rfl rfl rfl (op_neq (.base rfl) (.base rfl))) (
            AS.nil)))))))))))))))) ?_
        refine jn_keep [0, 5, 9, 11, 13, 87] [5] (.cons rfl (.cons rfl (.cons rfl (.cons rfl (.cons rfl (.cons rfl .nil)))))) (.cons rfl .nil) ?_
        refine jn_seq ?_
        refine j_cond rfl (fun h11 => ?_) (fun h11 => ?_)
        · skip
          refine j_seq ?_
          refine j_region ?_
          refine jg_adr _ rfl _ rfl rfl (op_call awake_ok .nil rfl rfl) ?_
          refine jg_adr _ rfl _ rfl rfl (op_assign (.base rfl)) ?_
          refine jg_nil ?_
          refine jn_keep [8] [] (.cons rfl .nil) .nil ?_
          refine jn_seq (j_ret (jr_blk (jr_seq (jr_loop (jr_blk (jr_seq ?_))))))
          exact jr_fin1 Tryz.results3 (res_tmp rfl) rfl (rb (by first | rfl | (simp; done)))
        · have h11 : locateF (repsF (s.2.2.1[k]) s.1 (uniqS (gK [e] (k : Int) 1))) (valsF s la).1[k].2.2 = locateF (repsF (s.2.2.1[k]) s.1 (uniqS (gK [e] (k : Int) 1))) (valsF s lb).1[k].2.2 := by simpa using h11
          refine j_skip (jn_blk (jn_seq ?_))
          refine j_region ?_
          refine jg_adr _ rfl _ rfl rfl (op_move (.base rfl)) ?_
          refine jg_adr _ rfl _ rfl rfl (op_add (.base rfl) (.base rfl) (w64 (by omega))) ?_
          refine jg_adr _ rfl _ rfl rfl (op_assign (.base rfl)) ?_
          refine jg_nil ?_
          refine jn_keep [0, 5, 9, 11, 13] [5] (.cons rfl (.cons rfl (.cons rfl (.cons rfl (.cons rfl .nil))))) (.cons rfl .nil) ?_
          exact jn_loop (fun a w hi => ⟨k + 1, (by omega), ⟨by omega, fun j hj h1 h2 h3 => (Nat.lt_or_ge j k).elim (fun q => hp j q h1 h2 h3) (fun q => (by have e1 : j = k := (by omega); subst e1; exact h11))⟩, (Sub.inv ⟨(by repeat (first | exact SubS_nil | refine SubS_cons rfl (by first | rfl | (simp; done) | assumption) ?_)), (by repeat (first | exact SubH_nil | refine SubH_cons rfl (by first | rfl | (simp; done) | assumption) ?_))⟩ hi)⟩)
      · have h8 : ¬ k < (valsF s la).1.length := by simpa using h8
        have C : Cells e s (valsF s la).1 (valsF s lb).1 := fun i h1 h2 h3 => hp i (by omega) h1 h2 h3
        have hev := F.const G C e.length (e.length - 1) (by have := F.len; omega) (by have := F.len; omega) F.top
        rw [show ((e.length - 1 : Nat) : Int) = (e.length : Int) - 1 by have := F.len; omega] at hev
        have hst := typeOf_struct (flat_typed g3).1
        refine j_exit (je_seq (je_loop (je_blk (jn_seq (j_seq ?_)))))
        refine j_region ?_
        refine jg_adr _ rfl _ rfl rfl (op_move (.base rfl)) ?_
        refine jg_adr _ rfl _ rfl rfl (op_move (.base rfl)) ?_
        refine jg_adr _ rfl _ rfl rfl (op_build z48 rfl pl48 (.cons (rt' := (rSlice rValue)) rfl ln48_1 (.tv (.base rfl)) .nil)) ?_
        refine jg_adr _ rfl _ rfl rfl (op_call (eval_ok e s ty _ F hst (by omega)) (.cons (.base rfl) (.cons (.base rfl) .nil)) rfl rfl) ?_
        refine jg_adr _ rfl _ rfl rfl (op_move (.base rfl)) ?_
        refine jg_adr _ rfl _ rfl rfl (op_ext20 (.base rfl)) ?_
        refine jg_adr _ rfl _ rfl rfl (op_ext21 (.base rfl)) ?_
        refine jg_os _ rfl (op_alloc _ z42 rfl rfl rfl) ?_
        refine jg_os _ rfl (op_ostore ty42 (.base rfl) rfl rfl (Lens.id _) (.tv (.base rfl))) ?_
        refine jg_adr _ rfl _ rfl rfl (op_assign (.base rfl)) ?_
        refine jg_nil ?_
        refine jn_keep [0, 11, 15, 16] [15] (.cons rfl (.cons rfl (.cons rfl (.cons rfl .nil)))) (.cons rfl .nil) ?_
        refine jn_seq (j_seq ?_)
        refine j_region ?_
        refine jg_adr _ rfl _ rfl rfl (op_move (.base rfl)) ?_
        refine jg_adr _ rfl _ rfl rfl (op_move (.base rfl)) ?_
        refine jg_adr _ rfl _ rfl rfl (op_build z48 rfl pl48 (.cons (rt' := (rSlice rValue)) rfl ln48_1 (.tv (.base rfl)) .nil)) ?_
        refine jg_adr _ rfl _ rfl rfl (op_call (eval_ok e s ty _ G hst (by omega)) (.cons (.base rfl) (.cons (.base rfl) .nil)) rfl rfl) ?_
        refine jg_adr _ rfl _ rfl rfl (op_move (.base rfl)) ?_
        refine jg_adr _ rfl _ rfl rfl (op_ext20 (.base rfl)) ?_
        refine jg_adr _ rfl _ rfl rfl (op_ext21 (.base rfl)) ?_
        refine jg_os _ rfl (op_alloc _ z42 rfl rfl rfl) ?_
        refine jg_os _ rfl (op_ostore ty42 (.base rfl) rfl rfl (Lens.id _) (.tv (.base rfl))) ?_
        refine jg_adr _ rfl _ rfl rfl (op_assign (.base rfl)) ?_
        refine jg_nil ?_
        refine jn_keep [15, 16, 17, 18] [15, 17] (.cons rfl (.cons rfl (.cons rfl (.cons rfl .nil)))) (.cons rfl (.cons rfl .nil)) ?_
        refine jn_seq (j_seq ?_)
        refine j_region ?_
        refine jg_adr _ rfl _ rfl rfl (op_move (.base rfl)) ?_
        refine jg_adr _ rfl _ rfl rfl (op_eql (.base rfl) (.base rfl)) ?_
        refine jg_adr _ rfl _ rfl rfl (op_move (.base rfl)) ?_
        refine jg_gd _ _ _ _ _ _ rfl rfl rfl rfl rfl (fun hg => op_move (.base rfl)) ?_
        refine jg_gd _ _ _ _ _ _ rfl rfl rfl rfl rfl (fun hg => op_eql (.gd rfl hg) (.base rfl)) ?_
        refine jg_adr _ rfl _ rfl rfl (op_pick_and (.base rfl) (.base rfl) rfl (by intro h; first | (rw [h]; rfl) | (rw [hg, h]; rfl) | (rw [h, hg]; rfl) | simp_all)) ?_
        refine jg_adr _ rfl _ rfl rfl (op_move (.base rfl)) ?_
        refine jg_gd _ _ _ _ _ _ rfl rfl rfl rfl rfl (fun hg => op_oload ty42 (.base rfl) rfl rfl (Lens.id _)) ?_
        refine jg_gd _ _ _ _ _ _ rfl rfl rfl rfl rfl (fun hg => op_oload ty42 (.base rfl) rfl rfl (Lens.id _)) ?_
        refine jg_gd _ _ _ _ _ _ rfl rfl rfl rfl rfl (fun hg => op_seql eq42 rfl rfl eg42 (.tv (.gd rfl hg)) (.tv (.gd rfl hg))) ?_
        refine jg_adr _ rfl _ rfl rfl (op_pick_and (.base rfl) (.base rfl) rfl (by intro h; first | (rw [h]; rfl) | (rw [hg, h]; rfl) | (rw [h, hg]; rfl) | simp_all)) ?_
        refine jg_adr _ rfl _ rfl rfl (op_move (.base rfl)) ?_
        refine jg_gd _ _ _ _ _ _ rfl rfl rfl rfl rfl (fun hg => op_call awake_ok .nil rfl rfl) ?_
        refine jg_adr _ rfl _ rfl rfl (op_pick_and (.base rfl) (.base rfl) rfl (by intro h; first | (rw [h]; rfl) | (rw [hg, h]; rfl) | (rw [h, hg]; rfl) | simp_all)) ?_
        refine jg_adr _ rfl _ rfl rfl (op_assign (.base rfl)) ?_
        refine jg_nil ?_
        refine jn_keep [8] [] (.cons rfl .nil) .nil ?_
        refine jn_seq (j_ret ?_)
        exact jr_fin1 Tryz.results3 (res_tmp rfl) rfl (rb (by simp [hev]))

end Go.Proofs.YtgoggdaohdablaaGreat
