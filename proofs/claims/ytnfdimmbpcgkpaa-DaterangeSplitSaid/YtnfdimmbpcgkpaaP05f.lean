import Derived.Test.YtnfdimmbpcgkpaaP05e
namespace Go.Proofs.Ytnfdimmbpcgkpaa
open Go.Eng
set_option maxRecDepth 100000
set_option maxHeartbeats 4000000
set_option linter.unusedVariables false
set_option linter.unusedSimpArgs false


theorem res_nil {α : Type} {P : Program} {cx : Cx} {st : St} {t : Nat} {rt : RT α} (h : lookS st.slots t = some (.raw (.slice none 0 0))) : Res P cx st (.tmp t) (.tv (rSlice rt) []) := fun β a w hi => by
  obtain ⟨v, h1, h2⟩ := hi.slots t _ h
  have h2 : v = .slice none 0 0 := h2
  exact ⟨v, by simp [resRun, h1], by rw [h2]; exact nil_val⟩
theorem norm_cnt : ∀ {l : List Rg} {m : Int}, Norm l → (∀ x ∈ l, m ≤ x.1) → m ≤ 109573 → (l.length : Int) + m ≤ 109573
  | [], m, _, _, h => by simp; exact h
  | x :: l, m, hn, hl, h => by
    have hx := hasD_iff.1 hn.1
    have h1 := hl x (by simp)
    have := norm_cnt (m := m + 1) hn.2.2 (fun y hy => by have := hn.2.1 y hy; omega) (by omega)
    simp only [List.length_cons]; omega
theorem norm_len {l : List Rg} (h : Norm l) : l.length ≤ 109573 := by
  have := norm_cnt (m := 0) h (fun x hx => (hasD_iff.1 (norm_mem h x hx)).1) (by omega)
  omega
def unionK (l : List Rg) (k : Nat) : List Rg := unionR (l.take k)
theorem unionK_succ {l : List Rg} {k : Nat} (hk : k < l.length) : unionK l (k + 1) = if hasD l[k] = true then putS (unionK l k) l[k] else unionK l k := by
  unfold unionK unionR; rw [← List.take_append_getElem hk, List.foldl_append]; rfl
theorem unionK_len (l : List Rg) (k : Nat) : (unionK l k).length ≤ 109573 := norm_len (unionR_ok _).1
def gapK (l : List Rg) (w : Rg) (k : Nat) : List Rg := (l.take k).foldl (fun out x => out.flatMap (fun p => subR p x)) [w]
theorem gapK_succ {l : List Rg} {w : Rg} {k : Nat} (hk : k < l.length) : gapK l w (k + 1) = (gapK l w k).flatMap (fun p => subR p l[k]) := by
  unfold gapK; rw [← List.take_append_getElem hk, List.foldl_append]; rfl
theorem gapK_norm {l : List Rg} {w : Rg} (hw : hasD w = true) (k : Nat) : Norm (gapK l w k) := (gapsR_ok' (l.take k) [w] ⟨hw, by simp, trivial⟩).1
def fmK (l : List Rg) (x : Rg) (j : Nat) : List Rg := (l.take j).flatMap (fun p => subR p x)
theorem fm_succ {l : List Rg} {x : Rg} {j : Nat} (hj : j < l.length) : fmK l x (j + 1) = fmK l x j ++ subR l[j] x := by
  unfold fmK
  rw [← List.take_append_getElem hj, List.flatMap_append]; simp
theorem fm_len {l : List Rg} {x : Rg} {j : Nat} (h : l.length ≤ 109573) : (fmK l x j).length ≤ 300000 := by
  unfold fmK
  have : ∀ a : List Rg, (a.flatMap (fun p => subR p x)).length ≤ 2 * a.length := by
    intro a; induction a with
    | nil => simp
    | cons y a ih => have := sub_len y x; simp only [List.flatMap_cons, List.length_append, List.length_cons]; omega
  have h1 := this (l.take j)
  have h2 : (l.take j).length ≤ l.length := by simp; omega
  omega
theorem bnd_succ {l : List Rg} {k : Nat} (hk : k < l.length) : bnd (l.take (k + 1)) = bnd (l.take k) ++ if hasD l[k] = true then [l[k].1, l[k].2] else [] := by
  rw [← List.take_append_getElem hk, bnd_append]; simp [bnd]
theorem bnd_len : ∀ (l : List Rg), (bnd l).length ≤ 2 * l.length
  | [] => by simp [bnd]
  | r :: l => by have := bnd_len l; rw [bnd, List.length_append, List.length_cons]; split <;> simp <;> omega
theorem cpt_take (zs : List Int) : (cptZ zs).take (Lib.compact zs).length = Lib.compact zs := List.take_left' rfl

theorem runion_ok (l : List Rg) : Ct Try.prog 13 [.tv (rSlice rDateRange) l] (.tv (rSlice rDateRange) (unionR l)) := by
  refine ct_intro Try.func13 rfl rfl Try.ntmps13 rfl rfl ?_
  intro w0 ok0
  refine j_len 0 rfl (fun hl0 => ?_)
  refine j_seq ?_
  refine j_region ?_
  refine jg_adr _ rfl _ rfl rfl (op_assign (.base rfl)) ?_
  refine jg_nil ?_
  refine jn_keep [0] [] (.cons rfl .nil) .nil ?_
  refine jn_seq (j_seq ?_)
  refine j_region ?_
  refine jg_adr _ rfl _ rfl rfl (op_assign (.base rfl)) ?_
  refine jg_nil ?_
  refine jn_keep [0, 3] [] (.cons rfl (.cons rfl .nil)) .nil ?_
  refine jn_seq (j_seq (j_seq ?_))
  refine j_region ?_
  refine jg_adr _ rfl _ rfl rfl (op_assign (.base rfl)) ?_
  refine jg_nil ?_
  refine jn_keep [0, 3, 4] [] (.cons rfl (.cons rfl (.cons rfl .nil))) .nil ?_
  refine jn_seq (j_block ?_)
  refine j_nil 3 rDateRange rfl ?_
  refine j_loopp (ι := Nat) (fun k => ⟨[(0, .tv (rSlice rDateRange) l), (3, .tv (rSlice rDateRange) (unionK l k)), (4, .raw (.int .i64 ((k : Nat))))], []⟩) (fun k => k ≤ l.length) (fun k => l.length - k) 0 (Nat.zero_le _) (fun a w hi => (Sub.inv ⟨(by repeat (first | exact SubS_nil | refine SubS_cons rfl (by first | rfl | (simp; done) | assumption) ?_)), (by repeat (first | exact SubH_nil | refine SubH_cons rfl (by first | rfl | (simp; done) | assumption) ?_))⟩ hi)) ?_
  rintro k hk
  have hul := unionK_len l k
  refine j_seq (j_seq ?_)
  refine j_region ?_
  refine jg_adr _ rfl _ rfl rfl (op_move (.base rfl)) ?_
  refine jg_adr _ rfl _ rfl rfl (op_move (.base rfl)) ?_
  refine jg_adr _ rfl _ rfl rfl (op_len Try.underlying22 (.base rfl)) ?_
  refine jg_adr _ rfl _ rfl rfl (op_lss (.base rfl) (.base rfl)) ?_
  refine jg_nil ?_
  refine jn_keep [0, 3, 4, 8] [] (.cons rfl (.cons rfl (.cons rfl (.cons rfl .nil)))) .nil ?_
  refine jn_seq ?_
  refine j_cond rfl (fun h3 => ?_) (fun h3 => ?_)
  · try simp at h3
    refine j_skip (jn_seq (j_seq (j_block (j_seq ?_))))
    refine j_region ?_
    refine jg_adr _ rfl _ rfl rfl (op_move (.base rfl)) ?_
    refine jg_adr _ rfl _ rfl rfl (op_move (.base rfl)) ?_
    refine jg_adr _ rfl _ rfl rfl (op_index Try.underlying22 ty24 (.base rfl) (.base rfl) rfl (List.getElem?_eq_getElem (by first | omega | (simp; done) | (simp; omega) | (simp at hg; omega)))) ?_
    refine jg_adr _ rfl _ rfl rfl (op_load ty24 (.base rfl)) ?_
    refine jg_adr _ rfl _ rfl rfl (op_call (rnonempty_ok _) (.cons (.base rfl) .nil) rfl rfl) ?_
    refine jg_nil ?_
    refine jn_keep [0, 3, 4, 15] [] (.cons rfl (.cons rfl (.cons rfl (.cons rfl .nil)))) .nil ?_
    refine jn_seq ?_
    refine j_cond rfl (fun h5 => ?_) (fun h5 => ?_)
    · have hs := unionK_succ (l := l) (k := k) (by omega)
      rw [if_pos h5] at hs
      refine j_region ?_
      refine jg_adr _ rfl _ rfl rfl (op_move (.base rfl)) ?_
      refine jg_adr _ rfl _ rfl rfl (op_move (.base rfl)) ?_
      refine jg_adr _ rfl _ rfl rfl (op_move (.base rfl)) ?_
      refine jg_adr _ rfl _ rfl rfl (op_index Try.underlying22 ty24 (.base rfl) (.base rfl) rfl (List.getElem?_eq_getElem (by first | omega | (simp; done) | (simp; omega) | (simp at hg; omega)))) ?_
      refine jg_adr _ rfl _ rfl rfl (op_load ty24 (.base rfl)) ?_
      refine jg_adr _ rfl _ rfl rfl (op_call (put_ok _ _ (by omega)) (.cons (.base rfl) (.cons (.base rfl) .nil)) rfl rfl) ?_
      refine jg_adr _ rfl _ rfl rfl (op_assign (.base rfl)) ?_
      refine jg_nil ?_
      refine jn_keep [0, 3, 4] [] (.cons rfl (.cons rfl (.cons rfl .nil))) .nil ?_
      refine jn_blk (jn_seq ?_)
      refine j_region ?_
      refine jg_adr _ rfl _ rfl rfl (op_move (.base rfl)) ?_
      refine jg_adr _ rfl _ rfl rfl (op_add (.base rfl) (.base rfl) (w64 (by omega))) ?_
      refine jg_adr _ rfl _ rfl rfl (op_assign (.base rfl)) ?_
      refine jg_nil ?_
      refine jn_keep [0, 3, 4] [] (.cons rfl (.cons rfl (.cons rfl .nil))) .nil ?_
      exact jn_loop (fun a w hi => ⟨k + 1, (by omega), (by omega), Sub.inv ⟨(by repeat (first | exact SubS_nil | refine SubS_cons rfl (by first | rfl | (refine congrArg (SV.tv (rSlice rDateRange)) ?_; first | (rw [hs]; done) | (exact hs.symm; done) | (exact hs; done))) ?_)), (by repeat (first | exact SubH_nil | refine SubH_cons rfl (by first | rfl | (simp; done) | assumption) ?_))⟩ hi⟩)
    · have hs := unionK_succ (l := l) (k := k) (by omega)
      rw [if_neg (by rw [h5]; simp)] at hs
      refine j_skip (jn_blk (jn_seq ?_))
      refine j_region ?_
      refine jg_adr _ rfl _ rfl rfl (op_move (.base rfl)) ?_
      refine jg_adr _ rfl _ rfl rfl (op_add (.base rfl) (.base rfl) (w64 (by omega))) ?_
      refine jg_adr _ rfl _ rfl rfl (op_assign (.base rfl)) ?_
      refine jg_nil ?_
      refine jn_keep [0, 3, 4] [] (.cons rfl (.cons rfl (.cons rfl .nil))) .nil ?_
      exact jn_loop (fun a w hi => ⟨k + 1, (by omega), (by omega), Sub.inv ⟨(by repeat (first | exact SubS_nil | refine SubS_cons rfl (by first | rfl | (refine congrArg (SV.tv (rSlice rDateRange)) ?_; first | (rw [hs]; done) | (exact hs.symm; done) | (exact hs; done))) ?_)), (by repeat (first | exact SubH_nil | refine SubH_cons rfl (by first | rfl | (simp; done) | assumption) ?_))⟩ hi⟩)
  · try simp at h3
    refine j_exit (je_seq (je_loop (je_blk (jn_seq (j_seq ?_)))))
    have hkk : k = l.length := by omega
    subst hkk
    refine j_region ?_
    refine jg_adr _ rfl _ rfl rfl (op_move (.base rfl)) ?_
    refine jg_adr _ rfl _ rfl rfl (op_assign (.base rfl)) ?_
    refine jg_nil ?_
    refine jn_keep [2] [] (.cons rfl .nil) .nil ?_
    refine jn_seq (j_ret ?_)
    exact jr_fin1 Try.results13 (res_tmp rfl) rfl (congrArg (SV.tv (rSlice rDateRange)) (by unfold unionK; rw [List.take_of_length_le (Nat.le_refl _)]))

theorem rsub_ok (a b : Rg) : Ct Try.prog 28 [.tv rDateRange a, .tv rDateRange b] (.tv (rSlice rDateRange) (subR a b)) := by
  refine ct_intro Try.func28 rfl rfl Try.ntmps28 rfl rfl ?_
  intro w0 ok0
  refine j_seq ?_
  refine j_region ?_
  refine jg_os _ rfl (op_box (.tv (.base rfl)) rfl rfl rfl) ?_
  refine jg_os _ rfl (op_box (.tv (.base rfl)) rfl rfl rfl) ?_
  refine jg_adr _ rfl _ rfl rfl (op_assign (.base rfl)) ?_
  refine jg_nil ?_
  refine jn_keep [2, 3] [2, 3] (.cons rfl (.cons rfl .nil)) (.cons rfl (.cons rfl .nil)) ?_
  refine jn_seq (j_seq (j_seq ?_))
  refine j_region ?_
  refine jg_adr _ rfl _ rfl rfl (op_oload ty24 (.base rfl) rfl rfl (Lens.id _)) ?_
  refine jg_adr _ rfl _ rfl rfl (op_call (rnonempty_ok _) (.cons (.base rfl) .nil) rfl rfl) ?_
  refine jg_adr _ rfl _ rfl rfl (op_not (.base rfl)) ?_
  refine jg_nil ?_
  refine jn_keep [2, 3, 10] [2, 3] (.cons rfl (.cons rfl (.cons rfl .nil))) (.cons rfl (.cons rfl .nil)) ?_
  refine jn_seq ?_
  refine j_cond rfl (fun h1 => ?_) (fun h1 => ?_)
  · have k1 : hasD a = false := by simpa using h1
    refine j_seq ?_
    refine j_region ?_
    refine jg_adr _ rfl _ rfl rfl (op_assign (.base rfl)) ?_
    refine jg_nil ?_
    refine jn_keep [4] [] (.cons rfl .nil) .nil ?_
    refine jn_seq (j_ret (jr_seq ?_))
    exact jr_fin1 Try.results28 (res_nil rfl) rfl (congrArg (SV.tv (rSlice rDateRange)) (by unfold subR; rw [if_pos k1]))
  · have k1 : ¬ hasD a = false := by simpa using h1
    refine j_skip (jn_seq (j_seq ?_))
    refine j_region ?_
    refine jg_adr _ rfl _ rfl rfl (op_oload ty24 (.base rfl) rfl rfl (Lens.id _)) ?_
    refine jg_adr _ rfl _ rfl rfl (op_oload ty24 (.base rfl) rfl rfl (Lens.id _)) ?_
    refine jg_adr _ rfl _ rfl rfl (op_call (rintersect_ok _ _) (.cons (.base rfl) (.cons (.base rfl) .nil)) rfl rfl) ?_
    refine jg_adr _ rfl _ rfl rfl (op_move (.base rfl)) ?_
    refine jg_adr _ rfl _ rfl rfl (op_ext20 (.base rfl)) ?_
    refine jg_adr _ rfl _ rfl rfl (op_ext21 (.base rfl)) ?_
    refine jg_os _ rfl (op_alloc _ z24 rfl rfl rfl) ?_
    refine jg_os _ rfl (op_ostore ty24 (.base rfl) rfl rfl (Lens.id _) (.tv (.base rfl))) ?_
    refine jg_adr _ rfl _ rfl rfl (op_assign (.base rfl)) ?_
    refine jg_nil ?_
    refine jn_keep [2, 5, 6] [2, 5] (.cons rfl (.cons rfl (.cons rfl .nil))) (.cons rfl (.cons rfl .nil)) ?_
    refine jn_seq (j_seq (j_seq ?_))
    refine j_region ?_
    refine jg_adr _ rfl _ rfl rfl (op_move (.base rfl)) ?_
    refine jg_adr _ rfl _ rfl rfl (op_not (.base rfl)) ?_
    refine jg_nil ?_
    refine jn_keep [2, 5, 18] [2, 5] (.cons rfl (.cons rfl (.cons rfl .nil))) (.cons rfl (.cons rfl .nil)) ?_
    refine jn_seq ?_
    refine j_cond rfl (fun h4 => ?_) (fun h4 => ?_)
    · have k4 : (interR a b).2 = false := by simpa using h4
      refine j_seq ?_
      refine j_region ?_
      refine jg_adr _ rfl _ rfl rfl (op_oload ty24 (.base rfl) rfl rfl (Lens.id _)) ?_
      refine jg_adr _ rfl _ rfl rfl (op_bslice (rt := rDateRange) Try.underlying22 ty24 z24 rfl (.cons (.tv (.base rfl)) .nil) rfl rfl) ?_
      refine jg_adr _ rfl _ rfl rfl (op_assign (.base rfl)) ?_
      refine jg_nil ?_
      refine jn_keep [4] [] (.cons rfl .nil) .nil ?_
      refine jn_seq (j_ret (jr_seq ?_))
      exact jr_fin1 Try.results28 (res_tmp rfl) rfl (congrArg (SV.tv (rSlice rDateRange)) (by unfold subR; rw [if_neg k1, if_pos k4]))
    · have k4 : ¬ (interR a b).2 = false := by simpa using h4
      refine j_skip (jn_seq (j_seq ?_))
      refine j_region ?_
      refine jg_adr _ rfl _ rfl rfl (op_assign (.base rfl)) ?_
      refine jg_nil ?_
      refine jn_keep [2, 5, 7] [2, 5] (.cons rfl (.cons rfl (.cons rfl .nil))) (.cons rfl (.cons rfl .nil)) ?_
      refine jn_seq (j_seq (j_seq ?_))
      refine j_vac 70 7 rDateRange rfl rfl rfl ?_
      refine j_region ?_
      refine jg_adr _ rfl _ rfl rfl (op_ofield fld24_0 (.base rfl)) ?_
      refine jg_adr _ rfl _ rfl rfl (op_oload ty3 (.base rfl) rfl rfl ln24_0) ?_
      refine jg_adr _ rfl _ rfl rfl (op_ofield fld24_0 (.base rfl)) ?_
      refine jg_adr _ rfl _ rfl rfl (op_oload ty3 (.base rfl) rfl rfl ln24_0) ?_
      refine jg_adr _ rfl _ rfl rfl (op_lss (.base rfl) (.base rfl)) ?_
      refine jg_nil ?_
      refine jn_keep [2, 5, 7, 25] [2, 5, 70] (.cons rfl (.cons rfl (.cons rfl (.cons rfl .nil)))) (.cons rfl (.cons rfl (.cons rfl .nil))) ?_
      refine jn_seq ?_
      refine j_cond rfl (fun h7 => ?_) (fun h7 => ?_)
      · have k7 : a.1 < (interR a b).1.1 := by simpa using h7
        refine j_region ?_
        refine jg_adr _ rfl _ rfl rfl (op_move (.base rfl)) ?_
        refine jg_adr _ rfl _ rfl rfl (op_ofield fld24_0 (.base rfl)) ?_
        refine jg_adr _ rfl _ rfl rfl (op_oload ty3 (.base rfl) rfl rfl ln24_0) ?_
        refine jg_adr _ rfl _ rfl rfl (op_ofield fld24_0 (.base rfl)) ?_
        refine jg_adr _ rfl _ rfl rfl (op_oload ty3 (.base rfl) rfl rfl ln24_0) ?_
        refine jg_adr _ rfl _ rfl rfl (op_build z24 rfl pl24 (.cons (rt' := (rInt .i64)) rfl ln24_0 (.raw (.base rfl) rfl) (.cons (rt' := (rInt .i64)) rfl ln24_1 (.raw (.base rfl) rfl) .nil))) ?_
        refine jg_adr _ rfl _ rfl rfl (op_bslice (rt := rDateRange) Try.underlying22 ty24 z24 rfl (.cons (.tv (.base rfl)) .nil) rfl rfl) ?_
        refine jg_os _ rfl (op_append [2, 5] Try.underlying22 ty24 z24 rfl by24 (.base rfl) rfl (by (try simp); try omega) (.tv (.base rfl)) (by unfold maxLen; (try simp); try omega) (by (try simp); try omega) rfl (.cons rfl (.cons rfl .nil)) rfl) ?_
        refine jg_adr _ rfl _ rfl rfl (op_assign (.base rfl)) ?_
        refine jg_nil ?_
        refine jn_keep [2, 5, 7] [2, 5, 70] (.cons rfl (.cons rfl (.cons rfl .nil))) (.cons rfl (.cons rfl (.cons rfl .nil))) ?_
        refine jn_seq (j_seq (j_seq ?_))
        refine j_region ?_
        refine jg_adr _ rfl _ rfl rfl (op_ofield fld24_1 (.base rfl)) ?_
        refine jg_adr _ rfl _ rfl rfl (op_oload ty3 (.base rfl) rfl rfl ln24_1) ?_
        refine jg_adr _ rfl _ rfl rfl (op_ofield fld24_1 (.base rfl)) ?_
        refine jg_adr _ rfl _ rfl rfl (op_oload ty3 (.base rfl) rfl rfl ln24_1) ?_
        refine jg_adr _ rfl _ rfl rfl (op_lss (.base rfl) (.base rfl)) ?_
        refine jg_nil ?_
        refine jn_keep [2, 5, 7, 38] [2, 5, 70] (.cons rfl (.cons rfl (.cons rfl (.cons rfl .nil)))) (.cons rfl (.cons rfl (.cons rfl .nil))) ?_
        refine jn_seq ?_
        refine j_cond rfl (fun h9 => ?_) (fun h9 => ?_)
        · have k9 : (interR a b).1.2 < a.2 := by simpa using h9
          refine j_region ?_
          refine jg_adr _ rfl _ rfl rfl (op_move (.base rfl)) ?_
          refine jg_adr _ rfl _ rfl rfl (op_ofield fld24_1 (.base rfl)) ?_
          refine jg_adr _ rfl _ rfl rfl (op_oload ty3 (.base rfl) rfl rfl ln24_1) ?_
          refine jg_adr _ rfl _ rfl rfl (op_ofield fld24_1 (.base rfl)) ?_
          refine jg_adr _ rfl _ rfl rfl (op_oload ty3 (.base rfl) rfl rfl ln24_1) ?_
          refine jg_adr _ rfl _ rfl rfl (op_build z24 rfl pl24 (.cons (rt' := (rInt .i64)) rfl ln24_0 (.raw (.base rfl) rfl) (.cons (rt' := (rInt .i64)) rfl ln24_1 (.raw (.base rfl) rfl) .nil))) ?_
          refine jg_adr _ rfl _ rfl rfl (op_bslice (rt := rDateRange) Try.underlying22 ty24 z24 rfl (.cons (.tv (.base rfl)) .nil) rfl rfl) ?_
          refine jg_os _ rfl (op_append [] Try.underlying22 ty24 z24 rfl by24 (.base rfl) rfl (by (try simp); try omega) (.tv (.base rfl)) (by unfold maxLen; (try simp); try omega) (by (try simp); try omega) rfl .nil rfl) ?_
          refine jg_adr _ rfl _ rfl rfl (op_assign (.base rfl)) ?_
          refine jg_nil ?_
          refine jn_keep [7] [70] (.cons rfl .nil) (.cons rfl .nil) ?_
          refine jn_seq (j_seq ?_)
          refine j_region ?_
          refine jg_adr _ rfl _ rfl rfl (op_move (.base rfl)) ?_
          refine jg_adr _ rfl _ rfl rfl (op_assign (.base rfl)) ?_
          refine jg_nil ?_
          refine jn_keep [4] [70] (.cons rfl .nil) (.cons rfl .nil) ?_
          refine jn_seq (j_ret ?_)
          refine jr_seal (rt := rDateRange) 70 4 (dropH 70 _) rfl rfl (by simp) (dropH_sub 70 _) (dropH_no 70 _) ?_
          exact jr_fin1 Try.results28 (res_tmp rfl) rfl (congrArg (SV.tv (rSlice rDateRange)) (by unfold subR; rw [if_neg k1, if_neg k4]; (first | rw [if_pos k7] | rw [if_neg k7]); (first | rw [if_pos k9] | rw [if_neg k9]); simp))
        · have k9 : ¬ (interR a b).1.2 < a.2 := by simpa using h9
          refine j_skip (jn_seq (j_seq ?_))
          refine j_region ?_
          refine jg_adr _ rfl _ rfl rfl (op_move (.base rfl)) ?_
          refine jg_adr _ rfl _ rfl rfl (op_assign (.base rfl)) ?_
          refine jg_nil ?_
          refine jn_keep [4] [70] (.cons rfl .nil) (.cons rfl .nil) ?_
          refine jn_seq (j_ret ?_)
          refine jr_seal (rt := rDateRange) 70 4 (dropH 70 _) rfl rfl (by simp) (dropH_sub 70 _) (dropH_no 70 _) ?_
          exact jr_fin1 Try.results28 (res_tmp rfl) rfl (congrArg (SV.tv (rSlice rDateRange)) (by unfold subR; rw [if_neg k1, if_neg k4]; (first | rw [if_pos k7] | rw [if_neg k7]); (first | rw [if_pos k9] | rw [if_neg k9]); simp))
      · have k7 : ¬ a.1 < (interR a b).1.1 := by simpa using h7
        refine j_skip (jn_seq (j_seq (j_seq ?_)))
        refine j_region ?_
        refine jg_adr _ rfl _ rfl rfl (op_ofield fld24_1 (.base rfl)) ?_
        refine jg_adr _ rfl _ rfl rfl (op_oload ty3 (.base rfl) rfl rfl ln24_1) ?_
        refine jg_adr _ rfl _ rfl rfl (op_ofield fld24_1 (.base rfl)) ?_
        refine jg_adr _ rfl _ rfl rfl (op_oload ty3 (.base rfl) rfl rfl ln24_1) ?_
        refine jg_adr _ rfl _ rfl rfl (op_lss (.base rfl) (.base rfl)) ?_
        refine jg_nil ?_
        refine jn_keep [2, 5, 7, 38] [2, 5, 70] (.cons rfl (.cons rfl (.cons rfl (.cons rfl .nil)))) (.cons rfl (.cons rfl (.cons rfl .nil))) ?_
        refine jn_seq ?_
        refine j_cond rfl (fun h9 => ?_) (fun h9 => ?_)
        · have k9 : (interR a b).1.2 < a.2 := by simpa using h9
          refine j_region ?_
          refine jg_adr _ rfl _ rfl rfl (op_move (.base rfl)) ?_
          refine jg_adr _ rfl _ rfl rfl (op_ofield fld24_1 (.base rfl)) ?_
          refine jg_adr _ rfl _ rfl rfl (op_oload ty3 (.base rfl) rfl rfl ln24_1) ?_
          refine jg_adr _ rfl _ rfl rfl (op_ofield fld24_1 (.base rfl)) ?_
          refine jg_adr _ rfl _ rfl rfl (op_oload ty3 (.base rfl) rfl rfl ln24_1) ?_
          refine jg_adr _ rfl _ rfl rfl (op_build z24 rfl pl24 (.cons (rt' := (rInt .i64)) rfl ln24_0 (.raw (.base rfl) rfl) (.cons (rt' := (rInt .i64)) rfl ln24_1 (.raw (.base rfl) rfl) .nil))) ?_
          refine jg_adr _ rfl _ rfl rfl (op_bslice (rt := rDateRange) Try.underlying22 ty24 z24 rfl (.cons (.tv (.base rfl)) .nil) rfl rfl) ?_
          refine jg_os _ rfl (op_append [] Try.underlying22 ty24 z24 rfl by24 (.base rfl) rfl (by (try simp); try omega) (.tv (.base rfl)) (by unfold maxLen; (try simp); try omega) (by (try simp); try omega) rfl .nil rfl) ?_
          refine jg_adr _ rfl _ rfl rfl (op_assign (.base rfl)) ?_
          refine jg_nil ?_
          refine jn_keep [7] [70] (.cons rfl .nil) (.cons rfl .nil) ?_
          refine jn_seq (j_seq ?_)
          refine j_region ?_
          refine jg_adr _ rfl _ rfl rfl (op_move (.base rfl)) ?_
          refine jg_adr _ rfl _ rfl rfl (op_assign (.base rfl)) ?_
          refine jg_nil ?_
          refine jn_keep [4] [70] (.cons rfl .nil) (.cons rfl .nil) ?_
          refine jn_seq (j_ret ?_)
          refine jr_seal (rt := rDateRange) 70 4 (dropH 70 _) rfl rfl (by simp) (dropH_sub 70 _) (dropH_no 70 _) ?_
          exact jr_fin1 Try.results28 (res_tmp rfl) rfl (congrArg (SV.tv (rSlice rDateRange)) (by unfold subR; rw [if_neg k1, if_neg k4]; (first | rw [if_pos k7] | rw [if_neg k7]); (first | rw [if_pos k9] | rw [if_neg k9]); simp))
        · have k9 : ¬ (interR a b).1.2 < a.2 := by simpa using h9
          refine j_skip (jn_seq (j_seq ?_))
          refine j_region ?_
          refine jg_adr _ rfl _ rfl rfl (op_move (.base rfl)) ?_
          refine jg_adr _ rfl _ rfl rfl (op_assign (.base rfl)) ?_
          refine jg_nil ?_
          refine jn_keep [4] [70] (.cons rfl .nil) (.cons rfl .nil) ?_
          refine jn_seq (j_ret ?_)
          refine jr_seal (rt := rDateRange) 70 4 (dropH 70 _) rfl rfl (by simp) (dropH_sub 70 _) (dropH_no 70 _) ?_
          exact jr_fin1 Try.results28 (res_tmp rfl) rfl (congrArg (SV.tv (rSlice rDateRange)) (by unfold subR; rw [if_neg k1, if_neg k4]; (first | rw [if_pos k7] | rw [if_neg k7]); (first | rw [if_pos k9] | rw [if_neg k9]); simp))

theorem rgaps_ok (l : List Rg) (w : Rg) : Ct Try.prog 15 [.tv (rSlice rDateRange) l, .tv rDateRange w] (.tv (rSlice rDateRange) (gapsR l w)) := by
  refine ct_intro Try.func15 rfl rfl Try.ntmps15 rfl rfl ?_
  intro w0 ok0
  refine j_len 0 rfl (fun hl0 => ?_)
  refine j_seq ?_
  refine j_region ?_
  refine jg_os _ rfl (op_box (.tv (.base rfl)) rfl rfl rfl) ?_
  refine jg_adr _ rfl _ rfl rfl (op_assign (.base rfl)) ?_
  refine jg_nil ?_
  refine jn_keep [0, 3] [3] (.cons rfl (.cons rfl .nil)) (.cons rfl .nil) ?_
  refine jn_seq (j_seq (j_seq ?_))
  refine j_region ?_
  refine jg_adr _ rfl _ rfl rfl (op_oload ty24 (.base rfl) rfl rfl (Lens.id _)) ?_
  refine jg_adr _ rfl _ rfl rfl (op_call (rnonempty_ok _) (.cons (.base rfl) .nil) rfl rfl) ?_
  refine jg_adr _ rfl _ rfl rfl (op_not (.base rfl)) ?_
  refine jg_nil ?_
  refine jn_keep [0, 3, 11] [3] (.cons rfl (.cons rfl (.cons rfl .nil))) (.cons rfl .nil) ?_
  refine jn_seq ?_
  refine j_cond rfl (fun h1 => ?_) (fun h1 => ?_)
  · have k1 : hasD w = false := by simpa using h1
    refine j_seq ?_
    refine j_region ?_
    refine jg_adr _ rfl _ rfl rfl (op_assign (.base rfl)) ?_
    refine jg_nil ?_
    refine jn_keep [4] [] (.cons rfl .nil) .nil ?_
    refine jn_seq (j_ret (jr_seq ?_))
    exact jr_fin1 Try.results15 (res_nil rfl) rfl (congrArg (SV.tv (rSlice rDateRange)) (by unfold gapsR; rw [if_pos k1]))
  · have k1 : hasD w = true := by simpa using h1
    refine j_skip (jn_seq (j_seq ?_))
    refine j_region ?_
    refine jg_adr _ rfl _ rfl rfl (op_oload ty24 (.base rfl) rfl rfl (Lens.id _)) ?_
    refine jg_adr _ rfl _ rfl rfl (op_bslice (rt := rDateRange) Try.underlying22 ty24 z24 rfl (.cons (.tv (.base rfl)) .nil) rfl rfl) ?_
    refine jg_adr _ rfl _ rfl rfl (op_assign (.base rfl)) ?_
    refine jg_nil ?_
    refine jn_keep [0, 5] [] (.cons rfl (.cons rfl .nil)) .nil ?_
    refine jn_seq (j_seq (j_seq ?_))
    refine j_region ?_
    refine jg_adr _ rfl _ rfl rfl (op_assign (.base rfl)) ?_
    refine jg_nil ?_
    refine jn_keep [0, 5, 6] [] (.cons rfl (.cons rfl (.cons rfl .nil))) .nil ?_
    refine jn_seq (j_block ?_)
    refine j_loopp (ι := Nat) (fun k => ⟨[(0, .tv (rSlice rDateRange) l), (5, .tv (rSlice rDateRange) (gapK l w k)), (6, .raw (.int .i64 ((k : Nat))))], []⟩) (fun k => k ≤ l.length) (fun k => l.length - k) 0 (Nat.zero_le _) (fun a w hi => (Sub.inv ⟨(by repeat (first | exact SubS_nil | refine SubS_cons rfl (by first | rfl | (simp; done) | assumption) ?_)), (by repeat (first | exact SubH_nil | refine SubH_cons rfl (by first | rfl | (simp; done) | assumption) ?_))⟩ hi)) ?_
    rintro k hk
    have hgl := norm_len (gapK_norm (l := l) k1 k)
    refine j_seq (j_seq ?_)
    refine j_region ?_
    refine jg_adr _ rfl _ rfl rfl (op_move (.base rfl)) ?_
    refine jg_adr _ rfl _ rfl rfl (op_move (.base rfl)) ?_
    refine jg_adr _ rfl _ rfl rfl (op_len Try.underlying22 (.base rfl)) ?_
    refine jg_adr _ rfl _ rfl rfl (op_lss (.base rfl) (.base rfl)) ?_
    refine jg_nil ?_
    refine jn_keep [0, 5, 6, 17] [] (.cons rfl (.cons rfl (.cons rfl (.cons rfl .nil)))) .nil ?_
    refine jn_seq ?_
    refine j_cond rfl (fun h5 => ?_) (fun h5 => ?_)
    · try simp at h5
      refine j_skip (jn_seq (j_seq (j_block (j_seq ?_))))
      have hk' : k < l.length := by omega
      refine j_region ?_
      refine jg_adr _ rfl _ rfl rfl (op_assign (.base rfl)) ?_
      refine jg_nil ?_
      refine jn_keep [0, 5, 6, 7] [] (.cons rfl (.cons rfl (.cons rfl (.cons rfl .nil)))) .nil ?_
      refine jn_seq (j_seq (j_seq ?_))
      refine j_region ?_
      refine jg_adr _ rfl _ rfl rfl (op_assign (.base rfl)) ?_
      refine jg_nil ?_
      refine jn_keep [0, 5, 6, 7, 8] [] (.cons rfl (.cons rfl (.cons rfl (.cons rfl (.cons rfl .nil))))) .nil ?_
      refine jn_seq (j_block ?_)
      refine j_vac 70 7 rDateRange rfl rfl rfl ?_
      refine j_loopp (ι := Nat) (fun j => ⟨[(0, .tv (rSlice rDateRange) l), (5, .tv (rSlice rDateRange) (gapK l w k)), (6, .raw (.int .i64 ((k : Nat)))), (7, .own 70 rDateRange.n 0 (fmK (gapK l w k) l[k] j).length), (8, .raw (.int .i64 ((j : Nat))))], [(70, ⟨rDateRange, (fmK (gapK l w k) l[k] j)⟩)]⟩) (fun j => j ≤ (gapK l w k).length) (fun j => (gapK l w k).length - j) 0 (Nat.zero_le _) (fun a w hi => (Sub.inv ⟨(by repeat (first | exact SubS_nil | refine SubS_cons rfl (by first | rfl | (simp; done) | assumption) ?_)), (by repeat (first | exact SubH_nil | refine SubH_cons rfl (by first | rfl | (simp; done) | assumption) ?_))⟩ hi)) ?_
      rintro j hj
      have hfl := fm_len (x := l[k]) (j := j) hgl
      refine j_seq (j_seq ?_)
      refine j_region ?_
      refine jg_adr _ rfl _ rfl rfl (op_move (.base rfl)) ?_
      refine jg_adr _ rfl _ rfl rfl (op_move (.base rfl)) ?_
      refine jg_adr _ rfl _ rfl rfl (op_len Try.underlying22 (.base rfl)) ?_
      refine jg_adr _ rfl _ rfl rfl (op_lss (.base rfl) (.base rfl)) ?_
      refine jg_nil ?_
      refine jn_keep [0, 5, 6, 7, 8, 23] [70] (.cons rfl (.cons rfl (.cons rfl (.cons rfl (.cons rfl (.cons rfl .nil)))))) (.cons rfl .nil) ?_
      refine jn_seq ?_
      refine j_cond rfl (fun h9 => ?_) (fun h9 => ?_)
      · try simp at h9
        refine j_skip (jn_seq (j_seq (j_block ?_)))
        have hsl := sub_len ((gapK l w k)[j]'(by omega)) l[k]
        refine j_draw_bar 10 mo (by kernel_rfl) (by kernel_rfl) (
          AS.cons _ _ rfl (ga_adr rfl rfl rfl (op_move (.base rfl))) (
            AS.cons _ _ rfl (ga_adr rfl rfl rfl (op_move (.base rfl))) (
            AS.cons _ _ rfl (ga_adr rfl rfl rfl (op_move (.base rfl))) (
            AS.cons _ _ rfl (ga_adr rfl rfl rfl (op_index Try.underlying22 ty24 (.base rfl) (.base rfl) rfl (List.getElem?_eq_getElem (by first | omega | (simp; done) | (simp; omega) | (simp at hg; omega))))) (
            AS.cons _ _ rfl (ga_adr rfl rfl rfl (op_load ty24 (.base rfl))) (
            AS.cons _ _ rfl (ga_adr rfl rfl rfl (op_move (.base rfl))) (
            AS.cons _ _ rfl (ga_adr rfl rfl rfl (op_move (.base rfl))) (
            AS.cons _ _ rfl (ga_adr rfl rfl rfl (op_index Try.underlying22 ty24 (.base rfl) (.base rfl) rfl (List.getElem?_eq_getElem (by first | omega | (simp; done) | (simp; omega) | (simp at hg; omega))))) (
            AS.cons _ _ rfl (ga_adr rfl rfl rfl (op_load ty24 (.base rfl))) (
            AS.cons _ _ rfl (ga_adr rfl rfl rfl (op_call (rsub_ok _ _) (.cons (.base rfl) (.cons (.base rfl) .nil)) rfl rfl)) (
            AS.nil))))))))))) rfl rfl (op_append [0, 5, 6, 8] Try.underlying22 ty24 z24 rfl by24 (.base rfl) rfl (by (try simp); try omega) (.tv (.base rfl)) (by unfold maxLen; (try simp); try omega) (by (try simp); try omega) rfl (.cons rfl (.cons rfl (.cons rfl (.cons rfl .nil)))) rfl) (
          AS.cons _ _ rfl (ga_adr rfl rfl rfl (op_assign (.base rfl))) (
            AS.nil)) ?_
        refine jn_keep [0, 5, 6, 7, 8] [70] (.cons rfl (.cons rfl (.cons rfl (.cons rfl (.cons rfl .nil))))) (.cons rfl .nil) ?_
        refine jn_blk (jn_seq ?_)
        refine j_region ?_
        refine jg_adr _ rfl _ rfl rfl (op_move (.base rfl)) ?_
        refine jg_adr _ rfl _ rfl rfl (op_add (.base rfl) (.base rfl) (w64 (by omega))) ?_
        refine jg_adr _ rfl _ rfl rfl (op_assign (.base rfl)) ?_
        refine jg_nil ?_
        refine jn_keep [0, 5, 6, 7, 8] [70] (.cons rfl (.cons rfl (.cons rfl (.cons rfl (.cons rfl .nil))))) (.cons rfl .nil) ?_
        exact jn_loop (fun a w2 hi => ⟨j + 1, (by omega), (by omega), Sub.inv ⟨(by repeat (first | exact SubS_nil | refine SubS_cons rfl (by first | rfl | exact congrArg (SV.own 70 rDateRange.n 0) (by rw [fm_succ (by omega)]; try simp; try omega)) ?_)), (by repeat (first | exact SubH_nil | refine SubH_cons rfl (by first | rfl | (refine congrArg (HB.mk rDateRange) ?_; rw [fm_succ (by omega)]; try (simp only [List.drop_zero, List.take_of_length_le (Nat.le_refl _)]); first | done | rfl | (simp; done))) ?_))⟩ hi⟩)
      · try simp at h9
        refine j_exit (je_seq (je_loop (je_blk (jn_seq ?_))))
        refine j_seal (rt := rDateRange) 70 7 (dropH 70 _) rfl rfl (by simp) (dropH_sub 70 _) (dropH_no 70 _) ?_
        have hjj : j = (gapK l w k).length := by omega
        have hg : (((fmK (gapK l w k) l[k] j).drop 0).take (fmK (gapK l w k) l[k] j).length) = gapK l w (k + 1) := by rw [List.drop_zero, List.take_of_length_le (Nat.le_refl _), hjj, fmK, List.take_of_length_le (Nat.le_refl _), gapK_succ hk']
        refine j_region ?_
        refine jg_adr _ rfl _ rfl rfl (op_move (.base rfl)) ?_
        refine jg_adr _ rfl _ rfl rfl (op_assign (.base rfl)) ?_
        refine jg_nil ?_
        refine jn_keep [0, 5, 6] [] (.cons rfl (.cons rfl (.cons rfl .nil))) .nil ?_
        refine jn_blk (jn_seq ?_)
        refine j_region ?_
        refine jg_adr _ rfl _ rfl rfl (op_move (.base rfl)) ?_
        refine jg_adr _ rfl _ rfl rfl (op_add (.base rfl) (.base rfl) (w64 (by omega))) ?_
        refine jg_adr _ rfl _ rfl rfl (op_assign (.base rfl)) ?_
        refine jg_nil ?_
        refine jn_keep [0, 5, 6] [] (.cons rfl (.cons rfl (.cons rfl .nil))) .nil ?_
        exact jn_loop (fun a w2 hi => ⟨k + 1, (by omega), (by omega), Sub.inv ⟨(by repeat (first | exact SubS_nil | refine SubS_cons rfl (by first | rfl | (refine congrArg (SV.tv (rSlice rDateRange)) ?_; first | (exact hg; done) | (exact hg.symm; done) | (rw [hg]; done))) ?_)), (by repeat (first | exact SubH_nil | refine SubH_cons rfl (by first | rfl | (simp; done) | assumption) ?_))⟩ hi⟩)
    · try simp at h5
      refine j_exit (je_seq (je_loop (je_blk (jn_seq (j_seq ?_)))))
      refine j_region ?_
      refine jg_adr _ rfl _ rfl rfl (op_move (.base rfl)) ?_
      refine jg_adr _ rfl _ rfl rfl (op_assign (.base rfl)) ?_
      refine jg_nil ?_
      refine jn_keep [4] [] (.cons rfl .nil) .nil ?_
      refine jn_seq (j_ret ?_)
      exact jr_fin1 Try.results15 (res_tmp rfl) rfl (congrArg (SV.tv (rSlice rDateRange)) (by have : k = l.length := (by omega); subst this; unfold gapsR gapK; rw [if_neg (by simp [k1]), List.take_of_length_le (Nat.le_refl _)]))

end Go.Proofs.Ytnfdimmbpcgkpaa
