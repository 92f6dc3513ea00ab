import Derived.Test.YtgoggdaohdablaaGreatP23c
namespace Go.Proofs.YtgoggdaohdablaaGreat
open Go.Eng
set_option maxRecDepth 100000
set_option maxHeartbeats 4000000
set_option linter.unusedVariables false
set_option linter.unusedSimpArgs false


def cutN (n : Int) : List Int := if n < 9223372036854775807 then [n, n + 1] else [n]
def cutAt (e : List TNode) (inp : Int) (i : Nat) : List Int :=
  if isCmp (e[i]?.getD (0, 0)).1 = true ∧ (simpleF e i).2.2 = true ∧ (simpleF e i).1 = inp ∧ (simpleF e i).2.1.1 ≠ 6 then cutN (simpleF e i).2.1.2 else []
def cutsK (e : List TNode) (inp : Int) : Nat → List Int
  | 0 => []
  | k + 1 => cutsK e inp k ++ cutAt e inp k
def gK (gs : List (List TNode)) (inp : Int) : Nat → List Int
  | 0 => []
  | k + 1 => gK gs inp k ++ cutsK (gs[k]?.getD []) inp (gs[k]?.getD []).length
theorem cutAt_len (e : List TNode) (inp : Int) (i : Nat) : (cutAt e inp i).length ≤ 2 := by unfold cutAt cutN; (repeat' split) <;> simp
theorem cutsK_len (e : List TNode) (inp : Int) : ∀ k, (cutsK e inp k).length ≤ 2 * k
  | 0 => by simp [cutsK]
  | k + 1 => by have := cutsK_len e inp k; have := cutAt_len e inp k; simp only [cutsK, List.length_append]; omega
theorem gK_len {gs : List (List TNode)} (inp : Int) (h : ∀ e ∈ gs, e.length ≤ 1000) : ∀ k, (gK gs inp k).length ≤ 2000 * k
  | 0 => by simp [gK]
  | k + 1 => by
    have := gK_len inp h k
    have h1 := cutsK_len (gs[k]?.getD []) inp (gs[k]?.getD []).length
    have h2 : (gs[k]?.getD []).length ≤ 1000 := by
      cases hg : gs[k]? with
      | none => simp
      | some e => exact h e (List.mem_of_getElem? hg)
    simp only [gK, List.length_append]; omega
theorem gK_step {gs : List (List TNode)} {inp : Int} {k : Nat} (hk : k < gs.length) : gK gs inp (k + 1) = gK gs inp k ++ cutsK gs[k] inp gs[k].length := by rw [gK, List.getElem?_eq_getElem hk, Option.getD_some]
theorem cut_t {e : List TNode} {inp : Int} {j : Nat} (hj : j < e.length) (h1 : isCmp e[j].1 = true) (h2 : (simpleF e j).2.2 = true) (h3 : (simpleF e j).1 = inp) (h4 : (simpleF e j).2.1.1 ≠ 6) : cutsK e inp (j + 1) = cutsK e inp j ++ cutN (simpleF e j).2.1.2 := by
  rw [cutsK, cutAt, List.getElem?_eq_getElem hj, Option.getD_some, if_pos ⟨h1, h2, h3, h4⟩]
theorem cut_f {e : List TNode} {inp : Int} {j : Nat} (hj : j < e.length) (h : ¬ (isCmp e[j].1 = true ∧ (simpleF e j).2.2 = true ∧ (simpleF e j).1 = inp ∧ (simpleF e j).2.1.1 ≠ 6)) : cutsK e inp (j + 1) = cutsK e inp j := by
  rw [cutsK, cutAt, List.getElem?_eq_getElem hj, Option.getD_some, if_neg h, List.append_nil]
theorem cuts_bad {e : List TNode} {inp : Int} (h : (structF e).2.2 ≠ 0) : ∀ k, cutsK e inp k = []
  | 0 => rfl
  | k + 1 => by
    have hs : (simpleF e k).2.2 = false := by unfold simpleF; rw [if_pos (by unfold opsF; rw [if_pos (.inl h)]; simp)]
    rw [cutsK, cuts_bad h k, cutAt, if_neg (by rw [hs]; simp)]; rfl
theorem cutN_t {n : Int} (h : n < 9223372036854775807) (X : List Int) : X ++ cutN n = X ++ [n] ++ [n + 1] := by rw [cutN, if_pos h]; simp
theorem cutN_f {n : Int} (h : ¬ n < 9223372036854775807) (X : List Int) : X ++ cutN n = X ++ [n] := by rw [cutN, if_neg h]
theorem lit_max {e : List TNode} (hn : ∀ d ∈ e, d.2 ≤ 9223372036854775807) (a : Int) : (simpleF e a).2.1.2 ≤ 9223372036854775807 := by
  have hg : ∀ i : Nat, (e[i]?.getD (0, 0)).2 ≤ 9223372036854775807 := fun i => by
    cases h : e[i]? with
    | none => simp
    | some d => exact hn d (List.mem_of_getElem? h)
  unfold simpleF; (repeat' split)
  · simp
  · exact hg _
  · exact hg _
  · simp
theorem lit_min {e : List TNode} (hn : ∀ d ∈ e, -9223372036854775808 ≤ d.2) (a : Int) : -9223372036854775808 ≤ (simpleF e a).2.1.2 := by
  have hg : ∀ i : Nat, -9223372036854775808 ≤ (e[i]?.getD (0, 0)).2 := fun i => by
    cases h : e[i]? with
    | none => simp
    | some d => exact hn d (List.mem_of_getElem? h)
  unfold simpleF; (repeat' split)
  · simp
  · exact hg _
  · exact hg _
  · simp
theorem wsucc {n : Int} (h0 : -9223372036854775808 ≤ n) (h1 : n ≤ 9223372036854775807) : IntKind.i64.wrap (n + 1) = if n = 9223372036854775807 then -9223372036854775808 else n + 1 := by
  split
  · rename_i h; subst h; decide
  · exact w64 (by omega)
theorem wsucc_gt {n : Int} (h1 : n ≤ 9223372036854775807) : ((if n = 9223372036854775807 then -9223372036854775808 else n + 1) > n) ↔ n < 9223372036854775807 := by
  split <;> omega
theorem simR_t {e : List TNode} {a op : Int} (h : (simpleR e a op).2.2 = true) : isCmp op = true := by
  unfold simpleR at h
  by_cases q : isCmp op = false ∨ (opsF e a).length ≠ 2
  · rw [if_pos q] at h; simp at h
  · simp only [not_or, Bool.not_eq_false] at q; exact q.1
theorem simR_cut {e : List TNode} {inp : Int} {j : Nat} (hj : j < e.length) (h1 : (simpleR e j e[j].1).2.2 = true) (h2 : (simpleR e j e[j].1).1.2 = inp) (h3 : (simpleR e j e[j].1).2.1.1 ≠ 6) : cutsK e inp (j + 1) = cutsK e inp j ++ cutN (simpleR e j e[j].1).2.1.2 := by
  have hc := simR_t h1
  obtain ⟨s1, s2⟩ := simple_same (e := e) (a := j) hc
  have h1' : (simpleF e j).2.2 = true := by rw [← s1]; exact h1
  obtain ⟨s3, s4⟩ := s2 h1'
  rw [s4]; exact cut_t hj hc h1' (by rw [← s3]; exact h2) (by rw [← s4]; exact h3)
theorem simR_no {e : List TNode} {inp : Int} {j : Nat} (hj : j < e.length) (h : ¬ ((simpleR e j e[j].1).2.2 = true ∧ (simpleR e j e[j].1).1.2 = inp ∧ (simpleR e j e[j].1).2.1.1 ≠ 6)) : cutsK e inp (j + 1) = cutsK e inp j := by
  refine cut_f hj fun ⟨hc, h1, h2, h3⟩ => h ?_
  obtain ⟨s1, s2⟩ := simple_same (e := e) (a := j) hc
  obtain ⟨s3, s4⟩ := s2 h1
  exact ⟨by rw [s1]; exact h1, by rw [s3]; exact h2, by rw [s4]; exact h3⟩
theorem simR_range {e : List TNode} {a op : Int} (h1 : (simpleR e a op).2.2 = true) : (simpleR e a op).2.1 = (simpleF e a).2.1 := by
  obtain ⟨s1, s2⟩ := simple_same (e := e) (a := a) (simR_t h1)
  exact (s2 (by rw [← s1]; exact h1)).2


theorem cpt_take (zs : List Int) : (cptZ zs).take (Lib.compact zs).length = Lib.compact zs := List.take_left' rfl

theorem cutPoints_ok (gs : List (List TNode)) (inp : Int) (hgl0 : gs.length ≤ 100) (hl : ∀ e ∈ gs, e.length ≤ 1000) (hm : ∀ e ∈ gs, ∀ d ∈ e, d.2 ≤ 9223372036854775807) (hmn : ∀ e ∈ gs, ∀ d ∈ e, -9223372036854775808 ≤ d.2) : Ct Tryz.prog 10 [.tv (rSlice (rSlice rNode)) gs, .raw (.int .i64 inp)] (.tv (rSlice (rInt .i64)) (uniqS (gK gs inp gs.length))) := by
  refine ct_intro Tryz.func10 rfl rfl Tryz.ntmps10 rfl rfl ?_
  intro w0 ok0
  refine j_seq ?_
  refine j_region ?_
  refine jg_adr _ rfl _ rfl rfl (op_assign (.base rfl)) ?_
  refine jg_nil ?_
  refine jn_keep [0, 1] [] (.cons rfl (.cons rfl .nil)) .nil ?_
  refine jn_seq (j_seq ?_)
  refine j_region ?_
  refine jg_adr _ rfl _ rfl rfl (op_assign (.base rfl)) ?_
  refine jg_nil ?_
  refine jn_keep [0, 1, 5] [] (.cons rfl (.cons rfl (.cons rfl .nil))) .nil ?_
  refine jn_seq (j_seq (j_seq ?_))
  refine j_region ?_
  refine jg_adr _ rfl _ rfl rfl (op_move (.base rfl)) ?_
  refine jg_adr _ rfl _ rfl rfl (op_len Tryz.underlying39 (.base rfl)) ?_
  refine jg_adr _ rfl _ rfl rfl (op_move (.base rfl)) ?_
  refine jg_nil ?_
  refine jn_keep [1, 5, 15, 16, 17] [] (.cons rfl (.cons rfl (.cons rfl (.cons rfl (.cons rfl .nil))))) .nil ?_
  refine jn_seq (j_block ?_)
  refine j_vac 70 5 (rInt .i64) rfl rfl rfl ?_
  refine j_loopp (ι := Nat) (fun k => ⟨[(1, .raw (.int .i64 (inp))), (5, .own 70 (rInt .i64).n 0 (gK gs inp k).length), (15, .tv (rSlice (rSlice rNode)) gs), (16, .raw (.int .i64 (gs.length))), (17, .raw (.int .i64 ((k : Nat))))], [(70, ⟨rInt .i64, (gK gs inp k)⟩)]⟩) (fun k => k ≤ gs.length) (fun k => gs.length - k) 0 (Nat.zero_le _) (fun a w hi => (Sub.inv ⟨(by repeat (first | exact SubS_nil | refine SubS_cons rfl (by first | rfl | (simp; done) | assumption) ?_)), (by repeat (first | exact SubH_nil | refine SubH_cons rfl (by first | rfl | (simp; done) | assumption) ?_))⟩ hi)) ?_
  rintro k hk
  have hgl := gK_len inp hl k
  
  refine j_seq ?_
  refine j_region ?_
  refine jg_adr _ rfl _ rfl rfl (op_lss (.base rfl) (.base rfl)) ?_
  refine jg_nil ?_
  refine jn_keep [1, 5, 15, 16, 17, 18] [70] (.cons rfl (.cons rfl (.cons rfl (.cons rfl (.cons rfl (.cons rfl .nil)))))) (.cons rfl .nil) ?_
  refine jn_seq (j_seq ?_)
  refine j_cond rfl (fun h3 => ?_) (fun h3 => ?_)
  · try simp at h3
    refine j_skip (jn_seq (j_seq (j_block (j_seq ?_))))
    refine j_region ?_
    refine jg_adr _ rfl _ rfl rfl (op_index Tryz.underlying39 ty22 (.base rfl) (.base rfl) rfl (List.getElem?_eq_getElem (by first | omega | (simp; done) | (simp; omega) | (simp at hg; omega)))) ?_
    refine jg_adr _ rfl _ rfl rfl (op_load ty22 (.base rfl)) ?_
    refine jg_adr _ rfl _ rfl rfl (op_assign (.base rfl)) ?_
    refine jg_nil ?_
    refine jn_keep [1, 5, 7, 15, 16, 17] [70] (.cons rfl (.cons rfl (.cons rfl (.cons rfl (.cons rfl (.cons rfl .nil)))))) (.cons rfl .nil) ?_
    refine jn_seq (j_seq (j_seq ?_))
    refine j_region ?_
    refine jg_adr _ rfl _ rfl rfl (op_move (.base rfl)) ?_
    refine jg_adr _ rfl _ rfl rfl (op_call (starts_ok _) (.cons (.base rfl) .nil) rfl rfl) ?_
    refine jg_adr _ rfl _ rfl rfl (op_move (.base rfl)) ?_
    refine jg_adr _ rfl _ rfl rfl (op_ext20 (.base rfl)) ?_
    refine jg_adr _ rfl _ rfl rfl (op_ext21 (.base rfl)) ?_
    refine jg_adr _ rfl _ rfl rfl (op_assign (.base rfl)) ?_
    refine jg_adr _ rfl _ rfl rfl (op_assign (.base rfl)) ?_
    refine jg_nil ?_
    refine jn_keep [1, 5, 7, 9, 15, 16, 17] [70] (.cons rfl (.cons rfl (.cons rfl (.cons rfl (.cons rfl (.cons rfl (.cons rfl .nil))))))) (.cons rfl .nil) ?_
    refine jn_seq (j_seq ?_)
    refine j_region ?_
    refine jg_adr _ rfl _ rfl rfl (op_move (.base rfl)) ?_
    refine jg_adr _ rfl _ rfl rfl (op_neq (.base rfl) (.base rfl)) ?_
    refine jg_nil ?_
    refine jn_keep [1, 5, 7, 15, 16, 17, 27] [70] (.cons rfl (.cons rfl (.cons rfl (.cons rfl (.cons rfl (.cons rfl (.cons rfl .nil))))))) (.cons rfl .nil) ?_
    refine jn_seq ?_
    refine j_cond rfl (fun h6 => ?_) (fun h6 => ?_)
    · have hg := gK_step (inp := inp) (show k < gs.length by omega)
      rw [cuts_bad (by simpa using h6), List.append_nil] at hg
      refine j_exit (je_seq (je_blk (jn_seq ?_)))
      refine j_region ?_
      refine jg_adr _ rfl _ rfl rfl (op_add (.base rfl) (.base rfl) (w64 (by omega))) ?_
      refine jg_adr _ rfl _ rfl rfl (op_move (.base rfl)) ?_
      refine jg_nil ?_
      refine jn_keep [1, 5, 15, 16, 17] [70] (.cons rfl (.cons rfl (.cons rfl (.cons rfl (.cons rfl .nil))))) (.cons rfl .nil) ?_
      exact jn_loop (fun a w hi => ⟨k + 1, (by omega), (by omega), Sub.inv ⟨(by repeat (first | exact SubS_nil | refine SubS_cons rfl (by first | rfl | exact congrArg (SV.own 70 (rInt .i64).n 0) (by rw [hg]; try simp; try omega)) ?_)), (by repeat (first | exact SubH_nil | refine SubH_cons rfl (by first | rfl | (refine congrArg (HB.mk (rInt .i64)) ?_; rw [hg]; try (simp only [List.drop_zero, List.take_of_length_le (Nat.le_refl _), List.append_assoc]); first | done | rfl | (simp; done) | (rw [List.take_of_length_le (by simp only [List.length_append, List.length_cons, List.length_nil]; omega)]; simp; done))) ?_))⟩ hi⟩)
    · skip
      refine j_skip (jn_seq (j_seq ?_))
      have hk' : k < gs.length := by omega
      have hel := hl _ (List.getElem_mem hk')
      have hem := hm _ (List.getElem_mem hk')
      refine j_region ?_
      refine jg_adr _ rfl _ rfl rfl (op_move (.base rfl)) ?_
      refine jg_adr _ rfl _ rfl rfl (op_len Tryz.underlying22 (.base rfl)) ?_
      refine jg_adr _ rfl _ rfl rfl (op_move (.base rfl)) ?_
      refine jg_nil ?_
      refine jn_keep [1, 5, 7, 15, 16, 17, 28, 29, 30] [70] (.cons rfl (.cons rfl (.cons rfl (.cons rfl (.cons rfl (.cons rfl (.cons rfl (.cons rfl (.cons rfl .nil))))))))) (.cons rfl .nil) ?_
      refine jn_seq (j_block ?_)
      refine j_loopp (ι := Nat) (fun j => ⟨[(1, .raw (.int .i64 (inp))), (5, .own 70 (rInt .i64).n 0 (gK gs inp k ++ cutsK gs[k] inp j).length), (7, .tv (rSlice rNode) gs[k]), (15, .tv (rSlice (rSlice rNode)) gs), (16, .raw (.int .i64 (gs.length))), (17, .raw (.int .i64 ((k : Nat)))), (28, .tv (rSlice rNode) gs[k]), (29, .raw (.int .i64 (gs[k].length))), (30, .raw (.int .i64 ((j : Nat))))], [(70, ⟨rInt .i64, (gK gs inp k ++ cutsK gs[k] inp j)⟩)]⟩) (fun j => j ≤ gs[k].length) (fun j => gs[k].length - j) 0 (Nat.zero_le _) (fun a w hi => (Sub.inv ⟨(by repeat (first | exact SubS_nil | refine SubS_cons rfl (by first | rfl | exact congrArg (SV.own 70 (rInt .i64).n 0) (by simp [cutsK])) ?_)), (by repeat (first | exact SubH_nil | refine SubH_cons rfl (by first | rfl | (refine congrArg (HB.mk (rInt .i64)) ?_; simp [cutsK]; done)) ?_))⟩ hi)) ?_
      rintro j hj
      have hcl := cutsK_len gs[k] inp j
      have hil : (gK gs inp k ++ cutsK gs[k] inp j).length ≤ 3000000 := by simp only [List.length_append]; omega
      refine j_seq ?_
      refine j_region ?_
      refine jg_adr _ rfl _ rfl rfl (op_lss (.base rfl) (.base rfl)) ?_
      refine jg_nil ?_
      refine jn_keep [1, 5, 7, 15, 16, 17, 28, 29, 30, 31] [70] (.cons rfl (.cons rfl (.cons rfl (.cons rfl (.cons rfl (.cons rfl (.cons rfl (.cons rfl (.cons rfl (.cons rfl .nil)))))))))) (.cons rfl .nil) ?_
      refine jn_seq (j_seq ?_)
      refine j_cond rfl (fun h8 => ?_) (fun h8 => ?_)
      · simp at h8
        have hj' : j < gs[k].length := by omega
        refine j_skip (jn_seq (j_seq (j_block (j_seq ?_))))
        refine j_region ?_
        refine jg_adr _ rfl _ rfl rfl (op_move (.base rfl)) ?_
        refine jg_adr _ rfl _ rfl rfl (op_index Tryz.underlying22 ty56 (.base rfl) (.base rfl) rfl (List.getElem?_eq_getElem (by first | omega | (simp; done) | (simp; omega) | (simp at hg; omega)))) ?_
        refine jg_adr _ rfl _ rfl rfl (op_load ty56 (.base rfl)) ?_
        refine jg_os _ rfl (op_alloc _ z56 rfl rfl rfl) ?_
        refine jg_adr _ rfl _ rfl rfl (op_assign (.base rfl)) ?_
        refine jg_os _ rfl (op_ostore ty56 (.base rfl) rfl rfl (Lens.id _) (.tv (.base rfl))) ?_
        refine jg_nil ?_
        refine jn_keep [1, 5, 7, 10, 11, 15, 16, 17, 28, 29, 30] [11, 70] (.cons rfl (.cons rfl (.cons rfl (.cons rfl (.cons rfl (.cons rfl (.cons rfl (.cons rfl (.cons rfl (.cons rfl (.cons rfl .nil))))))))))) (.cons rfl (.cons rfl .nil)) ?_
        refine jn_seq (j_seq (j_seq ?_))
        refine j_region ?_
        refine jg_adr _ rfl _ rfl rfl (op_oload ty56 (.base rfl) rfl rfl (Lens.id _)) ?_
        refine jg_adr _ rfl _ rfl rfl (op_call (isComparison_ok _) (.cons (.base rfl) .nil) rfl rfl) ?_
        refine jg_adr _ rfl _ rfl rfl (op_not (.base rfl)) ?_
        refine jg_nil ?_
        refine jn_keep [1, 5, 7, 10, 15, 16, 17, 28, 29, 30, 37] [70] (.cons rfl (.cons rfl (.cons rfl (.cons rfl (.cons rfl (.cons rfl (.cons rfl (.cons rfl (.cons rfl (.cons rfl (.cons rfl .nil))))))))))) (.cons rfl .nil) ?_
        refine jn_seq ?_
        refine j_cond rfl (fun h10 => ?_) (fun h10 => ?_)
        · have hc := cut_f (e := gs[k]) (inp := inp) hj' (fun q => by simp [q.1] at h10)
          refine j_exit (je_seq (je_blk (jn_seq ?_)))
          refine j_region ?_
          refine jg_adr _ rfl _ rfl rfl (op_add (.base rfl) (.base rfl) (w64 (by omega))) ?_
          refine jg_adr _ rfl _ rfl rfl (op_move (.base rfl)) ?_
          refine jg_nil ?_
          refine jn_keep [1, 5, 7, 15, 16, 17, 28, 29, 30] [70] (.cons rfl (.cons rfl (.cons rfl (.cons rfl (.cons rfl (.cons rfl (.cons rfl (.cons rfl (.cons rfl .nil))))))))) (.cons rfl .nil) ?_
          exact jn_loop (fun a w hi => ⟨j + 1, (by omega), (by omega), Sub.inv ⟨(by repeat (first | exact SubS_nil | refine SubS_cons rfl (by first | rfl | exact congrArg (SV.own 70 (rInt .i64).n 0) (by rw [hc]; try simp; try omega)) ?_)), (by repeat (first | exact SubH_nil | refine SubH_cons rfl (by first | rfl | (refine congrArg (HB.mk (rInt .i64)) ?_; rw [hc]; try (simp only [List.drop_zero, List.take_of_length_le (Nat.le_refl _), List.append_assoc]); first | done | rfl | (simp; done) | (rw [List.take_of_length_le (by simp only [List.length_append, List.length_cons, List.length_nil]; omega)]; simp; done))) ?_))⟩ hi⟩)
        · have k10 : isCmp (gs[k][j]).1 = true := by simpa using h10
          refine j_skip (jn_seq (j_seq ?_))
          refine j_region ?_
          refine jg_adr _ rfl _ rfl rfl (op_move (.base rfl)) ?_
          refine jg_adr _ rfl _ rfl rfl (op_move (.base rfl)) ?_
          refine jg_adr _ rfl _ rfl rfl (op_call (simpleC_ok _ _) (.cons (.base rfl) (.cons (.base rfl) .nil)) rfl rfl) ?_
          refine jg_adr _ rfl _ rfl rfl (op_move (.base rfl)) ?_
          refine jg_adr _ rfl _ rfl rfl (op_ext30 (.base rfl)) ?_
          refine jg_adr _ rfl _ rfl rfl (op_ext31 (.base rfl)) ?_
          refine jg_adr _ rfl _ rfl rfl (op_ext32 (.base rfl)) ?_
          refine jg_os _ rfl (op_alloc _ z56 rfl rfl rfl) ?_
          refine jg_adr _ rfl _ rfl rfl (op_assign (.base rfl)) ?_
          refine jg_os _ rfl (op_ostore ty56 (.base rfl) rfl rfl (Lens.id _) (.tv (.base rfl))) ?_
          refine jg_adr _ rfl _ rfl rfl (op_assign (.base rfl)) ?_
          refine jg_nil ?_
          refine jn_keep [1, 5, 7, 12, 13, 14, 15, 16, 17, 28, 29, 30] [13, 70] (.cons rfl (.cons rfl (.cons rfl (.cons rfl (.cons rfl (.cons rfl (.cons rfl (.cons rfl (.cons rfl (.cons rfl (.cons rfl (.cons rfl .nil)))))))))))) (.cons rfl (.cons rfl .nil)) ?_
          refine jn_seq (j_seq (j_seq ?_))
          refine j_region ?_
          refine jg_adr _ rfl _ rfl rfl (op_move (.base rfl)) ?_
          refine jg_adr _ rfl _ rfl rfl (op_not (.base rfl)) ?_
          refine jg_adr _ rfl _ rfl rfl (op_move (.base rfl)) ?_
          refine jg_gd _ _ _ _ _ _ rfl rfl rfl rfl rfl (fun hg => op_move (.base rfl)) ?_
          refine jg_gd _ _ _ _ _ _ rfl rfl rfl rfl rfl (fun hg => op_move (.base rfl)) ?_
          refine jg_gd _ _ _ _ _ _ rfl rfl rfl rfl rfl (fun hg => op_neq (.gd rfl hg) (.gd rfl hg)) ?_
          refine jg_adr _ rfl _ rfl rfl (op_pick_or (.base rfl) (.base rfl) rfl (by intro h; first | (rw [h]; rfl) | (rw [hg, h]; rfl) | (rw [h, hg]; rfl) | simp_all)) ?_
          refine jg_adr _ rfl _ rfl rfl (op_move (.base rfl)) ?_
          refine jg_gd _ _ _ _ _ _ rfl rfl rfl rfl rfl (fun hg => op_ofield fld56_0 (.base rfl)) ?_
          refine jg_gd _ _ _ _ _ _ rfl rfl rfl rfl rfl (fun hg => op_oload ty3 (.gd rfl hg) rfl rfl ln56_0) ?_
          refine jg_gd _ _ _ _ _ _ rfl rfl rfl rfl rfl (fun hg => op_eql (.gd rfl hg) (.base rfl)) ?_
          refine jg_adr _ rfl _ rfl rfl (op_pick_or (.base rfl) (.base rfl) rfl (by intro h; first | (rw [h]; rfl) | (rw [hg, h]; rfl) | (rw [h, hg]; rfl) | simp_all)) ?_
          refine jg_nil ?_
          refine jn_keep [1, 5, 7, 13, 15, 16, 17, 28, 29, 30, 56] [13, 70] (.cons rfl (.cons rfl (.cons rfl (.cons rfl (.cons rfl (.cons rfl (.cons rfl (.cons rfl (.cons rfl (.cons rfl (.cons rfl .nil))))))))))) (.cons rfl (.cons rfl .nil)) ?_
          refine jn_seq ?_
          refine j_cond rfl (fun h12 => ?_) (fun h12 => ?_)
          · have hc := cut_f (e := gs[k]) (inp := inp) hj' (fun q => by have q1 := q.2.1; have q2 := q.2.2.1; have q3 := q.2.2.2; simp [q1, q2, q3] at h12)
            refine j_exit (je_seq (je_blk (jn_seq ?_)))
            refine j_region ?_
            refine jg_adr _ rfl _ rfl rfl (op_add (.base rfl) (.base rfl) (w64 (by omega))) ?_
            refine jg_adr _ rfl _ rfl rfl (op_move (.base rfl)) ?_
            refine jg_nil ?_
            refine jn_keep [1, 5, 7, 15, 16, 17, 28, 29, 30] [70] (.cons rfl (.cons rfl (.cons rfl (.cons rfl (.cons rfl (.cons rfl (.cons rfl (.cons rfl (.cons rfl .nil))))))))) (.cons rfl .nil) ?_
            exact jn_loop (fun a w hi => ⟨j + 1, (by omega), (by omega), Sub.inv ⟨(by repeat (first | exact SubS_nil | refine SubS_cons rfl (by first | rfl | exact congrArg (SV.own 70 (rInt .i64).n 0) (by rw [hc]; try simp; try omega)) ?_)), (by repeat (first | exact SubH_nil | refine SubH_cons rfl (by first | rfl | (refine congrArg (HB.mk (rInt .i64)) ?_; rw [hc]; try (simp only [List.drop_zero, List.take_of_length_le (Nat.le_refl _), List.append_assoc]); first | done | rfl | (simp; done) | (rw [List.take_of_length_le (by simp only [List.length_append, List.length_cons, List.length_nil]; omega)]; simp; done))) ?_))⟩ hi⟩)
          · have k12 : ((simpleF gs[k] j).2.2 = true ∧ (simpleF gs[k] j).1 = inp) ∧ (simpleF gs[k] j).2.1.1 ≠ 6 := by simpa using h12
            have hN := lit_max hem j
            have hN0 := lit_min (hmn _ (List.getElem_mem hk')) j
            have hct := cut_t (e := gs[k]) (inp := inp) hj' k10 k12.1.1 k12.1.2 k12.2
            refine j_skip (jn_seq (j_seq ?_))
            refine j_region ?_
            refine jg_adr _ rfl _ rfl rfl (op_move (.base rfl)) ?_
            refine jg_adr _ rfl _ rfl rfl (op_ofield fld56_1 (.base rfl)) ?_
            refine jg_adr _ rfl _ rfl rfl (op_oload ty3 (.base rfl) rfl rfl ln56_1) ?_
            refine jg_adr _ rfl _ rfl rfl (op_bslice (rt := (rInt .i64)) Tryz.underlying28 ty3 z3 rfl (.cons (.raw (.base rfl) rfl) .nil) rfl rfl) ?_
            refine jg_os _ rfl (op_append [1, 7, 13, 15, 16, 17, 28, 29, 30] Tryz.underlying28 ty3 z3 rfl by3 (.base rfl) rfl (by (try simp); try omega) (.tv (.base rfl)) (by unfold maxLen; (try simp); try omega) (by (try simp); try omega) rfl (.cons rfl (.cons rfl (.cons rfl (.cons rfl (.cons rfl (.cons rfl (.cons rfl (.cons rfl (.cons rfl .nil))))))))) rfl) ?_
            refine jg_adr _ rfl _ rfl rfl (op_assign (.base rfl)) ?_
            refine jg_nil ?_
            refine jn_keep [1, 5, 7, 13, 15, 16, 17, 28, 29, 30] [13, 70] (.cons rfl (.cons rfl (.cons rfl (.cons rfl (.cons rfl (.cons rfl (.cons rfl (.cons rfl (.cons rfl (.cons rfl .nil)))))))))) (.cons rfl (.cons rfl .nil)) ?_
            refine jn_seq (j_seq ?_)
            refine j_region ?_
            refine jg_adr _ rfl _ rfl rfl (op_ofield fld56_1 (.base rfl)) ?_
            refine jg_adr _ rfl _ rfl rfl (op_oload ty3 (.base rfl) rfl rfl ln56_1) ?_
            refine jg_adr _ rfl _ rfl rfl (op_lss (.base rfl) (.base rfl)) ?_
            refine jg_nil ?_
            refine jn_keep [1, 5, 7, 13, 15, 16, 17, 28, 29, 30, 64] [13, 70] (.cons rfl (.cons rfl (.cons rfl (.cons rfl (.cons rfl (.cons rfl (.cons rfl (.cons rfl (.cons rfl (.cons rfl (.cons rfl .nil))))))))))) (.cons rfl (.cons rfl .nil)) ?_
            refine jn_seq ?_
            refine j_cond rfl (fun h14 => ?_) (fun h14 => ?_)
            · have k14 : (simpleF gs[k] j).2.1.2 < 9223372036854775807 := by simpa using h14
              have hc := hct
              rw [cutN_t k14] at hc
              refine j_region ?_
              refine jg_adr _ rfl _ rfl rfl (op_move (.base rfl)) ?_
              refine jg_adr _ rfl _ rfl rfl (op_ofield fld56_1 (.base rfl)) ?_
              refine jg_adr _ rfl _ rfl rfl (op_oload ty3 (.base rfl) rfl rfl ln56_1) ?_
              refine jg_adr _ rfl _ rfl rfl (op_add (.base rfl) (.base rfl) (w64 (by omega))) ?_
              refine jg_adr _ rfl _ rfl rfl (op_bslice (rt := (rInt .i64)) Tryz.underlying28 ty3 z3 rfl (.cons (.raw (.base rfl) rfl) .nil) rfl rfl) ?_
              refine jg_os _ rfl (op_append [1, 7, 15, 16, 17, 28, 29, 30] Tryz.underlying28 ty3 z3 rfl by3 (.base rfl) rfl (by (try simp); try omega) (.tv (.base rfl)) (by unfold maxLen; (try simp); try omega) (by (try simp); try omega) rfl (.cons rfl (.cons rfl (.cons rfl (.cons rfl (.cons rfl (.cons rfl (.cons rfl (.cons rfl .nil)))))))) rfl) ?_
              refine jg_adr _ rfl _ rfl rfl (op_assign (.base rfl)) ?_
              refine jg_nil ?_
              refine jn_keep [1, 5, 7, 15, 16, 17, 28, 29, 30] [70] (.cons rfl (.cons rfl (.cons rfl (.cons rfl (.cons rfl (.cons rfl (.cons rfl (.cons rfl (.cons rfl .nil))))))))) (.cons rfl .nil) ?_
              refine jn_blk (jn_seq ?_)
              refine j_region ?_
              refine jg_adr _ rfl _ rfl rfl (op_add (.base rfl) (.base rfl) (w64 (by omega))) ?_
              refine jg_adr _ rfl _ rfl rfl (op_move (.base rfl)) ?_
              refine jg_nil ?_
              refine jn_keep [1, 5, 7, 15, 16, 17, 28, 29, 30] [70] (.cons rfl (.cons rfl (.cons rfl (.cons rfl (.cons rfl (.cons rfl (.cons rfl (.cons rfl (.cons rfl .nil))))))))) (.cons rfl .nil) ?_
              exact jn_loop (fun a w hi => ⟨j + 1, (by omega), (by omega), Sub.inv ⟨(by repeat (first | exact SubS_nil | refine SubS_cons rfl (by first | rfl | exact congrArg (SV.own 70 (rInt .i64).n 0) (by rw [hc]; try simp; try omega)) ?_)), (by repeat (first | exact SubH_nil | refine SubH_cons rfl (by first | rfl | (refine congrArg (HB.mk (rInt .i64)) ?_; rw [hc]; try (simp only [List.drop_zero, List.take_of_length_le (Nat.le_refl _), List.append_assoc]); first | done | rfl | (simp; done) | (rw [List.take_of_length_le (by simp only [List.length_append, List.length_cons, List.length_nil]; omega)]; simp; done))) ?_))⟩ hi⟩)
            · have k14 : ¬ (simpleF gs[k] j).2.1.2 < 9223372036854775807 := by simpa using h14
              have hc := hct
              rw [cutN_f k14] at hc
              refine j_skip (jn_blk (jn_seq ?_))
              refine j_region ?_
              refine jg_adr _ rfl _ rfl rfl (op_add (.base rfl) (.base rfl) (w64 (by omega))) ?_
              refine jg_adr _ rfl _ rfl rfl (op_move (.base rfl)) ?_
              refine jg_nil ?_
              refine jn_keep [1, 5, 7, 15, 16, 17, 28, 29, 30] [70] (.cons rfl (.cons rfl (.cons rfl (.cons rfl (.cons rfl (.cons rfl (.cons rfl (.cons rfl (.cons rfl .nil))))))))) (.cons rfl .nil) ?_
              exact jn_loop (fun a w hi => ⟨j + 1, (by omega), (by omega), Sub.inv ⟨(by repeat (first | exact SubS_nil | refine SubS_cons rfl (by first | rfl | exact congrArg (SV.own 70 (rInt .i64).n 0) (by rw [hc]; try simp; try omega)) ?_)), (by repeat (first | exact SubH_nil | refine SubH_cons rfl (by first | rfl | (refine congrArg (HB.mk (rInt .i64)) ?_; rw [hc]; try (simp only [List.drop_zero, List.take_of_length_le (Nat.le_refl _), List.append_assoc]); first | done | rfl | (simp; done) | (rw [List.take_of_length_le (by simp only [List.length_append, List.length_cons, List.length_nil]; omega)]; simp; done))) ?_))⟩ hi⟩)
      · simp at h8
        have hjj : j = gs[k].length := by omega
        subst hjj
        have hg := gK_step (inp := inp) hk'
        refine j_exit (je_seq (je_loop (je_blk (jn_blk (jn_seq ?_)))))
        refine j_region ?_
        refine jg_adr _ rfl _ rfl rfl (op_add (.base rfl) (.base rfl) (w64 (by omega))) ?_
        refine jg_adr _ rfl _ rfl rfl (op_move (.base rfl)) ?_
        refine jg_nil ?_
        refine jn_keep [1, 5, 15, 16, 17] [70] (.cons rfl (.cons rfl (.cons rfl (.cons rfl (.cons rfl .nil))))) (.cons rfl .nil) ?_
        exact jn_loop (fun a w hi => ⟨k + 1, (by omega), (by omega), Sub.inv ⟨(by repeat (first | exact SubS_nil | refine SubS_cons rfl (by first | rfl | exact congrArg (SV.own 70 (rInt .i64).n 0) (by rw [hg]; try simp; try omega)) ?_)), (by repeat (first | exact SubH_nil | refine SubH_cons rfl (by first | rfl | (refine congrArg (HB.mk (rInt .i64)) ?_; rw [hg]; try (simp only [List.drop_zero, List.take_of_length_le (Nat.le_refl _), List.append_assoc]); first | done | rfl | (simp; done) | (rw [List.take_of_length_le (by simp only [List.length_append, List.length_cons, List.length_nil]; omega)]; simp; done))) ?_))⟩ hi⟩)
  · try simp at h3
    refine j_exit (je_seq (je_loop (je_blk (jn_seq (j_seq ?_)))))
    have hkk : k = gs.length := by omega
    subst hkk
    refine j_region ?_
    refine jg_adr _ rfl _ rfl rfl (op_move (.base rfl)) ?_
    refine jg_os _ rfl (op_turn0d turn_sort (.base rfl) rfl (by rfl) (by omega) (fun _ => rfl) rfl) ?_
    refine jg_nil ?_
    refine jn_keep [5] [70] (.cons rfl .nil) (.cons rfl .nil) ?_
    refine jn_seq (j_seq ?_)
    refine j_region ?_
    refine jg_adr _ rfl _ rfl rfl (op_move (.base rfl)) ?_
    refine jg_os _ rfl (op_turn1 turn_compact (.base rfl) rfl (by rw [List.length_mergeSort]) (by rw [List.length_mergeSort]; omega) rfl) ?_
    refine jg_adr _ rfl _ rfl rfl (op_assign (.base rfl)) ?_
    refine jg_nil ?_
    refine jn_keep [4] [70] (.cons rfl .nil) (.cons rfl .nil) ?_
    refine jn_seq (j_ret ?_)
    refine jr_seal (rt := rInt .i64) 70 4 (dropH 70 _) rfl rfl (by rw [cptZ_len, Nat.zero_add]; exact Lib.compact_length_le _) (dropH_sub 70 _) (dropH_no 70 _) ?_
    exact jr_fin1 Tryz.results10 (res_tmp rfl) rfl (congrArg (SV.tv (rSlice (rInt .i64))) (by simp only [List.drop_zero, List.take_of_length_le (Nat.le_refl _), cpt_take]; rfl))


end Go.Proofs.YtgoggdaohdablaaGreat
