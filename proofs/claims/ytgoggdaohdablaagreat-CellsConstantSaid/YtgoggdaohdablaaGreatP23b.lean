import Derived.Test.YtgoggdaohdablaaGreatP23a
namespace Go.Proofs.YtgoggdaohdablaaGreat
open Go.Eng
set_option maxRecDepth 100000
set_option maxHeartbeats 4000000
set_option linter.unusedVariables false
set_option linter.unusedSimpArgs false


def flatOp (op : Int) (smp : Bool) : Bool := decide (op = 1 ∨ op = 23 ∨ op = 24 ∨ op = 25 ∨ op = 7) || isLit op || (isCmp op && smp)
def flatAt (e : List TNode) (i : Nat) : Bool := flatOp (e[i]?.getD (0, 0)).1 (simpleF e i).2.2
def isFlat (e : List TNode) (s : TSignature) : Bool := (!(decide ((typeOf e s).2.2 ≠ 0) || !((typeOf e s).1 == (1, 0)))) && (List.range e.length).all (flatAt e)
theorem flat_f {e : List TNode} {s : TSignature} {k : Nat} (hk : k < e.length) (h : flatAt e k = false) : isFlat e s = false := by
  unfold isFlat
  rw [Bool.and_eq_false_iff]; right
  exact List.all_eq_false.2 ⟨k, List.mem_range.2 hk, by simp [h]⟩
theorem flat_t {e : List TNode} {s : TSignature} (h1 : (!(decide ((typeOf e s).2.2 ≠ 0) || !((typeOf e s).1 == (1, 0)))) = true) (h : ∀ i, i < e.length → flatAt e i = true) : isFlat e s = true := by
  unfold isFlat
  rw [h1, Bool.true_and]
  exact List.all_eq_true.2 fun i hi => h i (List.mem_range.1 hi)
theorem flat_more {e : List TNode} {k : Nat} (hp : ∀ i, i < k → flatAt e i = true) (h : flatAt e k = true) : ∀ i, i < k + 1 → flatAt e i = true := fun i hi => by
  rcases Nat.lt_or_ge i k with q | q
  · exact hp i q
  · have : i = k := by omega
    subst this; exact h
theorem flatAt_eq {e : List TNode} {k : Nat} (hk : k < e.length) : flatAt e k = flatOp e[k].1 (simpleF e k).2.2 := by unfold flatAt; rw [List.getElem?_eq_getElem hk]; rfl
theorem simple_same {e : List TNode} {a op : Int} (h : isCmp op = true) : (simpleR e a op).2.2 = (simpleF e a).2.2 ∧ ((simpleF e a).2.2 = true → (simpleR e a op).1.2 = (simpleF e a).1 ∧ (simpleR e a op).2.1 = (simpleF e a).2.1) := by
  by_cases h2 : (opsF e a).length = 2
  · have n1 : ¬ (isCmp op = false ∨ (opsF e a).length ≠ 2) := by simp [h, h2]
    have n2 : ¬ (opsF e a).length ≠ 2 := by simp [h2]
    by_cases q1 : (opA e a).1 = 7 ∧ isLit (opB e a).1 = true
    · simp only [simpleR, simpleF, if_neg n1, if_neg n2, if_pos q1]; simp
    · by_cases q2 : (opB e a).1 = 7 ∧ isLit (opA e a).1 = true
      · simp only [simpleR, simpleF, if_neg n1, if_neg n2, if_neg q1, if_pos q2]; simp
      · simp only [simpleR, simpleF, if_neg n1, if_neg n2, if_neg q1, if_neg q2]; simp
  · simp only [simpleR, simpleF, if_pos (show isCmp op = false ∨ (opsF e a).length ≠ 2 from .inr h2), if_pos h2]; simp

theorem isFlat_ok (e : List TNode) (s : TSignature) (hn : ∀ d ∈ e, d.2 ≤ 9223372036854775807) : Ct Tryz.prog 6 [.tv (rSlice rNode) e, .tv rSignature s] (.raw (.bool (isFlat e s))) := by
  refine ct_intro Tryz.func6 rfl rfl Tryz.ntmps6 rfl rfl ?_
  intro w0 ok0
  refine j_len 0 rfl (fun hl0 => ?_)
  refine j_seq ?_
  refine j_region ?_
  refine jg_os _ rfl (op_box (.tv (.base rfl)) rfl rfl rfl) ?_
  refine jg_adr _ rfl _ rfl rfl (op_assign (.base rfl)) ?_
  refine jg_nil ?_
  refine jn_keep [0, 3] [3] (.cons rfl (.cons rfl .nil)) (.cons rfl .nil) ?_
  refine jn_seq (j_seq ?_)
  refine j_region ?_
  refine jg_adr _ rfl _ rfl rfl (op_move (.base rfl)) ?_
  refine jg_adr _ rfl _ rfl rfl (op_oload ty27 (.base rfl) rfl rfl (Lens.id _)) ?_
  refine jg_adr _ rfl _ rfl rfl (op_call (typeOf_ok _ _ hn) (.cons (.base rfl) (.cons (.base rfl) .nil)) rfl rfl) ?_
  refine jg_adr _ rfl _ rfl rfl (op_move (.base rfl)) ?_
  refine jg_adr _ rfl _ rfl rfl (op_ext30 (.base rfl)) ?_
  refine jg_adr _ rfl _ rfl rfl (op_ext31 (.base rfl)) ?_
  refine jg_adr _ rfl _ rfl rfl (op_ext32 (.base rfl)) ?_
  refine jg_os _ rfl (op_alloc _ z37 rfl rfl rfl) ?_
  refine jg_os _ rfl (op_ostore ty37 (.base rfl) rfl rfl (Lens.id _) (.tv (.base rfl))) ?_
  refine jg_adr _ rfl _ rfl rfl (op_assign (.base rfl)) ?_
  refine jg_adr _ rfl _ rfl rfl (op_assign (.base rfl)) ?_
  refine jg_nil ?_
  refine jn_keep [0, 5, 7] [5] (.cons rfl (.cons rfl (.cons rfl .nil))) (.cons rfl .nil) ?_
  refine jn_seq (j_seq (j_seq ?_))
  refine j_region ?_
  refine jg_adr _ rfl _ rfl rfl (op_move (.base rfl)) ?_
  refine jg_adr _ rfl _ rfl rfl (op_neq (.base rfl) (.base rfl)) ?_
  refine jg_adr _ rfl _ rfl rfl (op_move (.base rfl)) ?_
  refine jg_gd _ _ _ _ _ _ rfl rfl rfl rfl rfl (fun hg => op_oload ty37 (.base rfl) rfl rfl (Lens.id _)) ?_
  refine jg_gd _ _ _ _ _ _ rfl rfl rfl rfl rfl (fun hg => op_build z37 rfl pl37 (.cons (rt' := (rInt .i64)) rfl ln37_0 (.raw (.base rfl) rfl) .nil)) ?_
  refine jg_gd _ _ _ _ _ _ rfl rfl rfl rfl rfl (fun hg => op_sneq eq37 rfl rfl eg37 (.tv (.gd rfl hg)) (.tv (.gd rfl hg))) ?_
  refine jg_adr _ rfl _ rfl rfl (op_pick_or (.base rfl) (.base rfl) rfl (by intro h; first | (rw [h]; rfl) | (rw [hg, h]; rfl) | (rw [h, hg]; rfl) | simp_all)) ?_
  refine jg_nil ?_
  refine jn_keep [0, 26] [] (.cons rfl (.cons rfl .nil)) .nil ?_
  refine jn_seq ?_
  refine j_cond rfl (fun h2 => ?_) (fun h2 => ?_)
  · skip
    refine j_seq ?_
    refine j_region ?_
    refine jg_adr _ rfl _ rfl rfl (op_assign (.base rfl)) ?_
    refine jg_nil ?_
    refine jn_keep [4] [] (.cons rfl .nil) .nil ?_
    refine jn_seq (j_ret (jr_seq ?_))
    exact jr_fin1 Tryz.results6 (res_tmp rfl) rfl (rb (by unfold isFlat; (try simp at h2); simp; first | exact fun q => absurd q (by simpa using h2) | (intro q1 q2; simp_all)))
  · have h1b : (!(decide ((typeOf e s).2.2 ≠ 0) || !((typeOf e s).1 == (1, 0)))) = true := by simp at h2 ⊢; exact h2
    refine j_skip (jn_seq (j_seq (j_seq ?_)))
    refine j_region ?_
    refine jg_adr _ rfl _ rfl rfl (op_move (.base rfl)) ?_
    refine jg_adr _ rfl _ rfl rfl (op_len Tryz.underlying22 (.base rfl)) ?_
    refine jg_adr _ rfl _ rfl rfl (op_move (.base rfl)) ?_
    refine jg_nil ?_
    refine jn_keep [0, 27, 28, 29] [] (.cons rfl (.cons rfl (.cons rfl (.cons rfl .nil)))) .nil ?_
    refine jn_seq (j_block ?_)
    refine j_loopp (ι := Nat) (fun k => ⟨[(0, .tv (rSlice rNode) e), (27, .tv (rSlice rNode) e), (28, .raw (.int .i64 (e.length))), (29, .raw (.int .i64 ((k : Nat))))], []⟩) (fun k => k ≤ e.length ∧ ∀ i, i < k → flatAt e i = true) (fun k => e.length - k) 0 (⟨Nat.zero_le _, fun i hi => absurd hi (by omega)⟩) (fun a w hi => (Sub.inv ⟨(by repeat (first | exact SubS_nil | refine SubS_cons rfl (by first | rfl | (simp; done) | assumption) ?_)), (by repeat (first | exact SubH_nil | refine SubH_cons rfl (by first | rfl | (simp; done) | assumption) ?_))⟩ hi)) ?_
    rintro k ⟨hk, hp⟩
    refine j_seq ?_
    refine j_region ?_
    refine jg_adr _ rfl _ rfl rfl (op_lss (.base rfl) (.base rfl)) ?_
    refine jg_nil ?_
    refine jn_keep [0, 27, 28, 29, 30] [] (.cons rfl (.cons rfl (.cons rfl (.cons rfl (.cons rfl .nil))))) .nil ?_
    refine jn_seq (j_seq ?_)
    refine j_cond rfl (fun h5 => ?_) (fun h5 => ?_)
    · try simp at h5
      refine j_skip (jn_seq (j_seq (j_block (j_seq ?_))))
      have hk' : k < e.length := by omega
      refine j_region ?_
      refine jg_adr _ rfl _ rfl rfl (op_move (.base rfl)) ?_
      refine jg_adr _ rfl _ rfl rfl (op_index Tryz.underlying22 ty56 (.base rfl) (.base rfl) rfl (List.getElem?_eq_getElem (by first | omega | (simp; done) | (simp; omega) | (simp at hg; omega)))) ?_
      refine jg_adr _ rfl _ rfl rfl (op_load ty56 (.base rfl)) ?_
      refine jg_os _ rfl (op_alloc _ z56 rfl rfl rfl) ?_
      refine jg_adr _ rfl _ rfl rfl (op_assign (.base rfl)) ?_
      refine jg_os _ rfl (op_ostore ty56 (.base rfl) rfl rfl (Lens.id _) (.tv (.base rfl))) ?_
      refine jg_nil ?_
      refine jn_keep [0, 8, 9, 27, 28, 29] [9] (.cons rfl (.cons rfl (.cons rfl (.cons rfl (.cons rfl (.cons rfl .nil)))))) (.cons rfl .nil) ?_
      refine jn_seq (j_seq (j_seq ?_))
      refine j_region ?_
      refine jg_adr _ rfl _ rfl rfl (op_ofield fld56_0 (.base rfl)) ?_
      refine jg_adr _ rfl _ rfl rfl (op_oload ty3 (.base rfl) rfl rfl ln56_0) ?_
      refine jg_nil ?_
      refine jn_keep [0, 8, 9, 27, 28, 29, 35] [9] (.cons rfl (.cons rfl (.cons rfl (.cons rfl (.cons rfl (.cons rfl (.cons rfl .nil))))))) (.cons rfl .nil) ?_
      refine jn_seq (j_block (j_seq (j_seq ?_)))
      refine j_region ?_
      refine jg_adr _ rfl _ rfl rfl (op_eql (.base rfl) (.base rfl)) ?_
      refine jg_adr _ rfl _ rfl rfl (op_assign (.base rfl)) ?_
      refine jg_nil ?_
      refine jn_keep [0, 8, 9, 27, 28, 29, 35, 36] [9] (.cons rfl (.cons rfl (.cons rfl (.cons rfl (.cons rfl (.cons rfl (.cons rfl (.cons rfl .nil)))))))) (.cons rfl .nil) ?_
      refine jn_seq ?_
      refine j_cond rfl (fun h8 => ?_) (fun h8 => ?_)
      · have g8 := h8; try simp at h8
        refine j_skip (jn_seq ?_)
        refine j_cond_t rfl g8 (j_exit (je_other rfl (je_seq (je_blk (jn_seq ?_)))))
        refine j_region ?_
        refine jg_adr _ rfl _ rfl rfl (op_add (.base rfl) (.base rfl) (w64 (by omega))) ?_
        refine jg_adr _ rfl _ rfl rfl (op_move (.base rfl)) ?_
        refine jg_nil ?_
        refine jn_keep [0, 27, 28, 29] [] (.cons rfl (.cons rfl (.cons rfl (.cons rfl .nil)))) .nil ?_
        exact jn_loop (fun a w hi => ⟨k + 1, (by omega), ⟨by omega, flat_more hp (by rw [flatAt_eq hk']; unfold flatOp; first | (simp [*]; done) | (simp_all; done))⟩, (Sub.inv ⟨(by repeat (first | exact SubS_nil | refine SubS_cons rfl (by first | rfl | (simp; done) | assumption) ?_)), (by repeat (first | exact SubH_nil | refine SubH_cons rfl (by first | rfl | (simp; done) | assumption) ?_))⟩ hi)⟩)
      · have g8 := h8; try simp at h8
        refine j_seq ?_
        refine j_region ?_
        refine jg_adr _ rfl _ rfl rfl (op_eql (.base rfl) (.base rfl)) ?_
        refine jg_adr _ rfl _ rfl rfl (op_assign (.base rfl)) ?_
        refine jg_nil ?_
        refine jn_keep [0, 8, 9, 27, 28, 29, 35, 36] [9] (.cons rfl (.cons rfl (.cons rfl (.cons rfl (.cons rfl (.cons rfl (.cons rfl (.cons rfl .nil)))))))) (.cons rfl .nil) ?_
        refine jn_seq ?_
        refine j_cond rfl (fun h9 => ?_) (fun h9 => ?_)
        · have g9 := h9; try simp at h9
          refine j_skip (jn_seq ?_)
          refine j_cond_t rfl g9 (j_exit (je_other rfl (je_seq (je_blk (jn_seq ?_)))))
          refine j_region ?_
          refine jg_adr _ rfl _ rfl rfl (op_add (.base rfl) (.base rfl) (w64 (by omega))) ?_
          refine jg_adr _ rfl _ rfl rfl (op_move (.base rfl)) ?_
          refine jg_nil ?_
          refine jn_keep [0, 27, 28, 29] [] (.cons rfl (.cons rfl (.cons rfl (.cons rfl .nil)))) .nil ?_
          exact jn_loop (fun a w hi => ⟨k + 1, (by omega), ⟨by omega, flat_more hp (by rw [flatAt_eq hk']; unfold flatOp; first | (simp [*]; done) | (simp_all; done))⟩, (Sub.inv ⟨(by repeat (first | exact SubS_nil | refine SubS_cons rfl (by first | rfl | (simp; done) | assumption) ?_)), (by repeat (first | exact SubH_nil | refine SubH_cons rfl (by first | rfl | (simp; done) | assumption) ?_))⟩ hi)⟩)
        · have g9 := h9; try simp at h9
          refine j_seq ?_
          refine j_region ?_
          refine jg_adr _ rfl _ rfl rfl (op_eql (.base rfl) (.base rfl)) ?_
          refine jg_adr _ rfl _ rfl rfl (op_assign (.base rfl)) ?_
          refine jg_nil ?_
          refine jn_keep [0, 8, 9, 27, 28, 29, 35, 36] [9] (.cons rfl (.cons rfl (.cons rfl (.cons rfl (.cons rfl (.cons rfl (.cons rfl (.cons rfl .nil)))))))) (.cons rfl .nil) ?_
          refine jn_seq ?_
          refine j_cond rfl (fun h10 => ?_) (fun h10 => ?_)
          · have g10 := h10; try simp at h10
            refine j_skip (jn_seq ?_)
            refine j_cond_t rfl g10 (j_exit (je_other rfl (je_seq (je_blk (jn_seq ?_)))))
            refine j_region ?_
            refine jg_adr _ rfl _ rfl rfl (op_add (.base rfl) (.base rfl) (w64 (by omega))) ?_
            refine jg_adr _ rfl _ rfl rfl (op_move (.base rfl)) ?_
            refine jg_nil ?_
            refine jn_keep [0, 27, 28, 29] [] (.cons rfl (.cons rfl (.cons rfl (.cons rfl .nil)))) .nil ?_
            exact jn_loop (fun a w hi => ⟨k + 1, (by omega), ⟨by omega, flat_more hp (by rw [flatAt_eq hk']; unfold flatOp; first | (simp [*]; done) | (simp_all; done))⟩, (Sub.inv ⟨(by repeat (first | exact SubS_nil | refine SubS_cons rfl (by first | rfl | (simp; done) | assumption) ?_)), (by repeat (first | exact SubH_nil | refine SubH_cons rfl (by first | rfl | (simp; done) | assumption) ?_))⟩ hi)⟩)
          · have g10 := h10; try simp at h10
            refine j_seq ?_
            refine j_region ?_
            refine jg_adr _ rfl _ rfl rfl (op_eql (.base rfl) (.base rfl)) ?_
            refine jg_adr _ rfl _ rfl rfl (op_assign (.base rfl)) ?_
            refine jg_nil ?_
            refine jn_keep [0, 8, 9, 27, 28, 29, 35, 36] [9] (.cons rfl (.cons rfl (.cons rfl (.cons rfl (.cons rfl (.cons rfl (.cons rfl (.cons rfl .nil)))))))) (.cons rfl .nil) ?_
            refine jn_seq ?_
            refine j_cond rfl (fun h11 => ?_) (fun h11 => ?_)
            · have g11 := h11; try simp at h11
              refine j_skip (jn_seq ?_)
              refine j_cond_t rfl g11 (j_exit (je_other rfl (je_seq (je_blk (jn_seq ?_)))))
              refine j_region ?_
              refine jg_adr _ rfl _ rfl rfl (op_add (.base rfl) (.base rfl) (w64 (by omega))) ?_
              refine jg_adr _ rfl _ rfl rfl (op_move (.base rfl)) ?_
              refine jg_nil ?_
              refine jn_keep [0, 27, 28, 29] [] (.cons rfl (.cons rfl (.cons rfl (.cons rfl .nil)))) .nil ?_
              exact jn_loop (fun a w hi => ⟨k + 1, (by omega), ⟨by omega, flat_more hp (by rw [flatAt_eq hk']; unfold flatOp; first | (simp [*]; done) | (simp_all; done))⟩, (Sub.inv ⟨(by repeat (first | exact SubS_nil | refine SubS_cons rfl (by first | rfl | (simp; done) | assumption) ?_)), (by repeat (first | exact SubH_nil | refine SubH_cons rfl (by first | rfl | (simp; done) | assumption) ?_))⟩ hi)⟩)
            · have g11 := h11; try simp at h11
              refine j_region ?_
              refine jg_adr _ rfl _ rfl rfl (op_eql (.base rfl) (.base rfl)) ?_
              refine jg_adr _ rfl _ rfl rfl (op_assign (.base rfl)) ?_
              refine jg_nil ?_
              refine jn_keep [0, 8, 9, 27, 28, 29, 36] [9] (.cons rfl (.cons rfl (.cons rfl (.cons rfl (.cons rfl (.cons rfl (.cons rfl .nil))))))) (.cons rfl .nil) ?_
              refine jn_seq ?_
              refine j_cond rfl (fun h12 => ?_) (fun h12 => ?_)
              · have g12 := h12; try simp at h12
                refine j_exit (je_other rfl (je_seq (je_blk (jn_seq ?_))))
                refine j_region ?_
                refine jg_adr _ rfl _ rfl rfl (op_add (.base rfl) (.base rfl) (w64 (by omega))) ?_
                refine jg_adr _ rfl _ rfl rfl (op_move (.base rfl)) ?_
                refine jg_nil ?_
                refine jn_keep [0, 27, 28, 29] [] (.cons rfl (.cons rfl (.cons rfl (.cons rfl .nil)))) .nil ?_
                exact jn_loop (fun a w hi => ⟨k + 1, (by omega), ⟨by omega, flat_more hp (by rw [flatAt_eq hk']; unfold flatOp; first | (simp [*]; done) | (simp_all; done))⟩, (Sub.inv ⟨(by repeat (first | exact SubS_nil | refine SubS_cons rfl (by first | rfl | (simp; done) | assumption) ?_)), (by repeat (first | exact SubH_nil | refine SubH_cons rfl (by first | rfl | (simp; done) | assumption) ?_))⟩ hi)⟩)
              · have g12 := h12; try simp at h12
                refine j_skip (jn_blk (jn_seq (j_seq (j_seq ?_))))
                refine j_region ?_
                refine jg_adr _ rfl _ rfl rfl (op_oload ty56 (.base rfl) rfl rfl (Lens.id _)) ?_
                refine jg_adr _ rfl _ rfl rfl (op_call (isLiteral_ok _) (.cons (.base rfl) .nil) rfl rfl) ?_
                refine jg_nil ?_
                refine jn_keep [0, 8, 9, 27, 28, 29, 43] [9] (.cons rfl (.cons rfl (.cons rfl (.cons rfl (.cons rfl (.cons rfl (.cons rfl .nil))))))) (.cons rfl .nil) ?_
                refine jn_seq ?_
                refine j_cond rfl (fun h13 => ?_) (fun h13 => ?_)
                · have k13 : isLit e[k].1 = true := by simpa using h13
                  refine j_exit (je_seq (je_blk (jn_seq ?_)))
                  refine j_region ?_
                  refine jg_adr _ rfl _ rfl rfl (op_add (.base rfl) (.base rfl) (w64 (by omega))) ?_
                  refine jg_adr _ rfl _ rfl rfl (op_move (.base rfl)) ?_
                  refine jg_nil ?_
                  refine jn_keep [0, 27, 28, 29] [] (.cons rfl (.cons rfl (.cons rfl (.cons rfl .nil)))) .nil ?_
                  exact jn_loop (fun a w hi => ⟨k + 1, (by omega), ⟨by omega, flat_more hp (by rw [flatAt_eq hk']; unfold flatOp; first | (simp [*]; done) | (simp_all; done))⟩, (Sub.inv ⟨(by repeat (first | exact SubS_nil | refine SubS_cons rfl (by first | rfl | (simp; done) | assumption) ?_)), (by repeat (first | exact SubH_nil | refine SubH_cons rfl (by first | rfl | (simp; done) | assumption) ?_))⟩ hi)⟩)
                · have k13 : isLit e[k].1 = false := by simpa using h13
                  refine j_skip (jn_seq (j_seq (j_seq ?_)))
                  refine j_region ?_
                  refine jg_adr _ rfl _ rfl rfl (op_oload ty56 (.base rfl) rfl rfl (Lens.id _)) ?_
                  refine jg_adr _ rfl _ rfl rfl (op_call (isComparison_ok _) (.cons (.base rfl) .nil) rfl rfl) ?_
                  refine jg_adr _ rfl _ rfl rfl (op_not (.base rfl)) ?_
                  refine jg_nil ?_
                  refine jn_keep [0, 8, 27, 28, 29, 46] [] (.cons rfl (.cons rfl (.cons rfl (.cons rfl (.cons rfl (.cons rfl .nil)))))) .nil ?_
                  refine jn_seq ?_
                  refine j_cond rfl (fun h14 => ?_) (fun h14 => ?_)
                  · have k14 : isCmp e[k].1 = false := by simpa using h14
                    refine j_seq ?_
                    refine j_region ?_
                    refine jg_adr _ rfl _ rfl rfl (op_assign (.base rfl)) ?_
                    refine jg_nil ?_
                    refine jn_keep [4] [] (.cons rfl .nil) .nil ?_
                    refine jn_seq (j_ret (jr_seq (jr_blk (jr_seq (jr_loop (jr_blk (jr_seq ?_)))))))
                    exact jr_fin1 Tryz.results6 (res_tmp rfl) rfl (rb (flat_f (s := s) hk' (by rw [flatAt_eq hk']; unfold flatOp; first | (simp [*]; done) | (simp_all; done) | (simp [isLit, isCmp] at *; simp [*]; done))).symm)
                  · have k14 : isCmp e[k].1 = true := by simpa using h14
                    refine j_skip (jn_seq (j_seq ?_))
                    refine j_region ?_
                    refine jg_adr _ rfl _ rfl rfl (op_move (.base rfl)) ?_
                    refine jg_adr _ rfl _ rfl rfl (op_move (.base rfl)) ?_
                    refine jg_adr _ rfl _ rfl rfl (op_call (simpleC_ok _ _) (.cons (.base rfl) (.cons (.base rfl) .nil)) rfl rfl) ?_
                    refine jg_adr _ rfl _ rfl rfl (op_move (.base rfl)) ?_
                    refine jg_adr _ rfl _ rfl rfl (op_ext30 (.base rfl)) ?_
                    refine jg_adr _ rfl _ rfl rfl (op_ext31 (.base rfl)) ?_
                    refine jg_adr _ rfl _ rfl rfl (op_ext32 (.base rfl)) ?_
                    refine jg_os _ rfl (op_alloc _ z56 rfl rfl rfl) ?_
                    refine jg_adr _ rfl _ rfl rfl (op_assign (.base rfl)) ?_
                    refine jg_os _ rfl (op_ostore ty56 (.base rfl) rfl rfl (Lens.id _) (.tv (.base rfl))) ?_
                    refine jg_adr _ rfl _ rfl rfl (op_assign (.base rfl)) ?_
                    refine jg_nil ?_
                    refine jn_keep [0, 12, 27, 28, 29] [] (.cons rfl (.cons rfl (.cons rfl (.cons rfl (.cons rfl .nil))))) .nil ?_
                    refine jn_seq (j_seq ?_)
                    refine j_region ?_
                    refine jg_adr _ rfl _ rfl rfl (op_move (.base rfl)) ?_
                    refine jg_adr _ rfl _ rfl rfl (op_not (.base rfl)) ?_
                    refine jg_nil ?_
                    refine jn_keep [0, 27, 28, 29, 55] [] (.cons rfl (.cons rfl (.cons rfl (.cons rfl (.cons rfl .nil))))) .nil ?_
                    refine jn_seq ?_
                    refine j_cond rfl (fun h17 => ?_) (fun h17 => ?_)
                    · have k17 : (simpleF e k).2.2 = false := by simpa using h17
                      refine j_seq ?_
                      refine j_region ?_
                      refine jg_adr _ rfl _ rfl rfl (op_assign (.base rfl)) ?_
                      refine jg_nil ?_
                      refine jn_keep [4] [] (.cons rfl .nil) .nil ?_
                      refine jn_seq (j_ret (jr_blk (jr_seq (jr_loop (jr_blk (jr_seq ?_))))))
                      exact jr_fin1 Tryz.results6 (res_tmp rfl) rfl (rb (flat_f (s := s) hk' (by rw [flatAt_eq hk']; unfold flatOp; first | (simp [*]; done) | (simp_all; done) | (simp [isLit, isCmp] at *; simp [*]; done))).symm)
                    · have k17 : (simpleF e k).2.2 = true := by simpa using h17
                      refine j_skip (jn_blk (jn_seq ?_))
                      refine j_region ?_
                      refine jg_adr _ rfl _ rfl rfl (op_add (.base rfl) (.base rfl) (w64 (by omega))) ?_
                      refine jg_adr _ rfl _ rfl rfl (op_move (.base rfl)) ?_
                      refine jg_nil ?_
                      refine jn_keep [0, 27, 28, 29] [] (.cons rfl (.cons rfl (.cons rfl (.cons rfl .nil)))) .nil ?_
                      exact jn_loop (fun a w hi => ⟨k + 1, (by omega), ⟨by omega, flat_more hp (by rw [flatAt_eq hk']; unfold flatOp; first | (simp [*]; done) | (simp_all; done))⟩, (Sub.inv ⟨(by repeat (first | exact SubS_nil | refine SubS_cons rfl (by first | rfl | (simp; done) | assumption) ?_)), (by repeat (first | exact SubH_nil | refine SubH_cons rfl (by first | rfl | (simp; done) | assumption) ?_))⟩ hi)⟩)
    · try simp at h5
      refine j_exit (je_seq (je_loop (je_blk (jn_seq (j_seq ?_)))))
      refine j_region ?_
      refine jg_adr _ rfl _ rfl rfl (op_assign (.base rfl)) ?_
      refine jg_nil ?_
      refine jn_keep [4] [] (.cons rfl .nil) .nil ?_
      refine jn_seq (j_ret ?_)
      exact jr_fin1 Tryz.results6 (res_tmp rfl) rfl (rb (flat_t h1b (fun i hi => hp i (by omega))).symm)


end Go.Proofs.YtgoggdaohdablaaGreat
