import Derived.Test.YthfhekohlmboiaaP15h
namespace Go.Proofs.Ythfhekohlmboiaa
open Go.Eng
set_option maxRecDepth 100000
set_option maxHeartbeats 4000000
set_option linter.unusedVariables false
set_option linter.unusedSimpArgs false


def SmE (e : TEnum) : Prop := e.1.length ≤ 80 ∧ e.2.length ≤ 20 ∧ ∀ m ∈ e.2, m.length ≤ 80
def SmR (r : TRule) : Prop := r.1.length ≤ 80 ∧ r.2.2.2.2.2.2.2.length ≤ 80 ∧ r.2.2.2.2.2.1.length ≤ 50 ∧ r.2.2.2.2.2.2.1.length ≤ 50
def SmF (f : TField) : Prop := f.1.length ≤ 80
def SmS (s : TScope) : Prop := (s.1.length ≤ 80 ∧ s.2.2.1.length ≤ 14 ∧ s.2.2.2.1.length ≤ 14 ∧ s.2.2.2.2.length ≤ 60) ∧ (∀ f ∈ s.2.2.1, SmF f) ∧ (∀ f ∈ s.2.2.2.1, SmF f) ∧ ∀ r ∈ s.2.2.2.2, SmR r
def SmT (t : TTable) : Prop := t.1.length ≤ 80
def sumT (ts : List TTable) : Nat := (ts.map (fun t => t.2.2.2.length)).sum
def sumS (ts : List TScope) : Nat := (ts.map (fun t => t.2.2.2.2.length)).sum
def WL (l : TLaw) : Prop := (∀ t ∈ l.2.1, t.2.2.2.length ≤ 140737488351232) ∧ ∀ s ∈ l.2.2, s.2.2.2.2.length ≤ 140737488351232
def SmL (l : TLaw) : Prop := (l.1.length ≤ 9 ∧ l.2.1.length ≤ 9 ∧ l.2.2.length ≤ 5) ∧ (∀ e ∈ l.1, SmE e) ∧ ((∀ t ∈ l.2.1, SmT t) ∧ sumT l.2.1 ≤ 150) ∧ (∀ s ∈ l.2.2, SmS s) ∧ sumS l.2.2 ≤ 60
theorem all_0 {α : Type} {P : α → Prop} (xs : List α) : ∀ x ∈ xs.take 0, P x := by simp
theorem all_succ {α : Type} {P : α → Prop} {xs : List α} {k : Nat} (h : k < xs.length) (h1 : ∀ x ∈ xs.take k, P x) (h2 : P xs[k]) : ∀ x ∈ xs.take (k + 1), P x := by
  intro x hx; rw [List.take_succ_eq_append_getElem h, List.mem_append, List.mem_singleton] at hx
  rcases hx with hx | rfl
  · exact h1 x hx
  · exact h2
theorem all_end {α : Type} {P : α → Prop} {xs : List α} {k : Nat} (h : xs.length ≤ k) (h1 : ∀ x ∈ xs.take k, P x) : ∀ x ∈ xs, P x := by rw [List.take_of_length_le h] at h1; exact h1
theorem sumT_succ {ts : List TTable} {k : Nat} (h : k < ts.length) : sumT (ts.take (k + 1)) = sumT (ts.take k) + ts[k].2.2.2.length := by
  unfold sumT; rw [List.take_succ_eq_append_getElem h, List.map_append, List.sum_append]; simp
theorem sumT_le (ts : List TTable) (k : Nat) : sumT (ts.take k) ≤ sumT ts := by
  unfold sumT
  have := congrArg (fun x => (x.map (fun t : TTable => t.2.2.2.length)).sum) (List.take_append_drop k ts)
  simp only [List.map_append, List.sum_append] at this; omega
theorem sumS_succ {ts : List TScope} {k : Nat} (h : k < ts.length) : sumS (ts.take (k + 1)) = sumS (ts.take k) + ts[k].2.2.2.2.length := by
  unfold sumS; rw [List.take_succ_eq_append_getElem h, List.map_append, List.sum_append]; simp
theorem sumS_le (ts : List TScope) (k : Nat) : sumS (ts.take k) ≤ sumS ts := by
  unfold sumS
  have := congrArg (fun x => (x.map (fun t : TScope => t.2.2.2.2.length)).sum) (List.take_append_drop k ts)
  simp only [List.map_append, List.sum_append] at this; omega

theorem smallS_ok (s : TScope) : Ct Try.prog 23 [.tv rScope s] (.raw (.bool (dB (SmS s)))) := by
  refine ct_intro Try.func23 rfl rfl Try.ntmps23 rfl rfl ?_
  intro w0 ok0
  refine j_seq ?_
  refine j_region ?_
  refine jg_os _ rfl (op_box (.tv (.base rfl)) rfl rfl rfl) ?_
  refine jg_adr _ rfl _ rfl rfl (op_assign (.base rfl)) ?_
  refine jg_nil ?_
  refine jn_keep [1] [1] (.cons rfl .nil) (.cons rfl .nil) ?_
  refine jn_seq (j_seq (j_seq ?_))
  refine j_region ?_
  refine jg_adr _ rfl _ rfl rfl (op_ofield fld40_0 (.base rfl)) ?_
  refine jg_adr _ rfl _ rfl rfl (op_oload ty9 (.base rfl) rfl rfl ln40_0) ?_
  refine jg_adr _ rfl _ rfl rfl (op_len_str Try.underlying9 (.base rfl)) ?_
  refine jg_adr _ rfl _ rfl rfl (op_gtr (.base rfl) (.base rfl)) ?_
  refine jg_adr _ rfl _ rfl rfl (op_move (.base rfl)) ?_
  refine jg_gd _ _ _ _ _ _ rfl rfl rfl rfl rfl (fun hg => op_ofield fld40_2 (.base rfl)) ?_
  refine jg_gd _ _ _ _ _ _ rfl rfl rfl rfl rfl (fun hg => op_oload ty37 (.gd rfl hg) rfl rfl ln40_2) ?_
  refine jg_gd _ _ _ _ _ _ rfl rfl rfl rfl rfl (fun hg => op_len Try.underlying37 (.gd rfl hg)) ?_
  refine jg_gd _ _ _ _ _ _ rfl rfl rfl rfl rfl (fun hg => op_gtr (.gd rfl hg) (.base rfl)) ?_
  refine jg_adr _ rfl _ rfl rfl (op_pick_or (.base rfl) (.base rfl) rfl (by intro h; first | (rw [h]; rfl) | (rw [hg, h]; rfl) | (rw [h, hg]; rfl) | simp_all)) ?_
  refine jg_adr _ rfl _ rfl rfl (op_move (.base rfl)) ?_
  refine jg_gd _ _ _ _ _ _ rfl rfl rfl rfl rfl (fun hg => op_ofield fld40_3 (.base rfl)) ?_
  refine jg_gd _ _ _ _ _ _ rfl rfl rfl rfl rfl (fun hg => op_oload ty37 (.gd rfl hg) rfl rfl ln40_3) ?_
  refine jg_gd _ _ _ _ _ _ rfl rfl rfl rfl rfl (fun hg => op_len Try.underlying37 (.gd rfl hg)) ?_
  refine jg_gd _ _ _ _ _ _ rfl rfl rfl rfl rfl (fun hg => op_gtr (.gd rfl hg) (.base rfl)) ?_
  refine jg_adr _ rfl _ rfl rfl (op_pick_or (.base rfl) (.base rfl) rfl (by intro h; first | (rw [h]; rfl) | (rw [hg, h]; rfl) | (rw [h, hg]; rfl) | simp_all)) ?_
  refine jg_adr _ rfl _ rfl rfl (op_move (.base rfl)) ?_
  refine jg_gd _ _ _ _ _ _ rfl rfl rfl rfl rfl (fun hg => op_ofield fld40_4 (.base rfl)) ?_
  refine jg_gd _ _ _ _ _ _ rfl rfl rfl rfl rfl (fun hg => op_oload ty38 (.gd rfl hg) rfl rfl ln40_4) ?_
  refine jg_gd _ _ _ _ _ _ rfl rfl rfl rfl rfl (fun hg => op_len Try.underlying38 (.gd rfl hg)) ?_
  refine jg_gd _ _ _ _ _ _ rfl rfl rfl rfl rfl (fun hg => op_gtr (.gd rfl hg) (.base rfl)) ?_
  refine jg_adr _ rfl _ rfl rfl (op_pick_or (.base rfl) (.base rfl) rfl (by intro h; first | (rw [h]; rfl) | (rw [hg, h]; rfl) | (rw [h, hg]; rfl) | simp_all)) ?_
  refine jg_nil ?_
  refine jn_keep [1, 28] [1] (.cons rfl (.cons rfl .nil)) (.cons rfl .nil) ?_
  refine jn_seq ?_
  refine j_cond rfl (fun h1 => ?_) (fun h1 => ?_)
  · have h1 : ¬ (s.1.length ≤ 80 ∧ s.2.2.1.length ≤ 14 ∧ s.2.2.2.1.length ≤ 14 ∧ s.2.2.2.2.length ≤ 60) := by simp at h1; omega
    refine j_seq ?_
    refine j_region ?_
    refine jg_adr _ rfl _ rfl rfl (op_assign (.base rfl)) ?_
    refine jg_nil ?_
    refine jn_keep [2] [] (.cons rfl .nil) .nil ?_
    refine jn_seq (j_ret (jr_seq ?_))
    exact jr_fin1 Try.results23 (res_tmp rfl) rfl (rb ((dB_f (fun q => h1 q.1)).symm))
  · have h1 : s.1.length ≤ 80 ∧ s.2.2.1.length ≤ 14 ∧ s.2.2.2.1.length ≤ 14 ∧ s.2.2.2.2.length ≤ 60 := by simp at h1; omega
    refine j_skip (jn_seq (j_seq (j_seq ?_)))
    refine j_region ?_
    refine jg_adr _ rfl _ rfl rfl (op_assign (.base rfl)) ?_
    refine jg_nil ?_
    refine jn_keep [1, 3] [1] (.cons rfl (.cons rfl .nil)) (.cons rfl .nil) ?_
    refine jn_seq (j_block ?_)
    refine j_loopp (ι := Nat) (fun k => ⟨[(1, .optr 1 rScope.n 0 0), (3, .raw (.int .i64 ((k : Nat))))], [(1, ⟨rScope, [s]⟩)]⟩) (fun k => k ≤ s.2.2.1.length ∧ ∀ x ∈ s.2.2.1.take k, SmF x) (fun k => s.2.2.1.length - k) 0 (⟨Nat.zero_le _, all_0 _⟩) (fun a w hi => (Sub.inv ⟨(by repeat (first | exact SubS_nil | refine SubS_cons rfl (by first | rfl | (simp; done) | assumption) ?_)), (by repeat (first | exact SubH_nil | refine SubH_cons rfl (by first | rfl | (simp; done) | assumption) ?_))⟩ hi)) ?_
    rintro k ⟨hk, hp⟩
    refine j_seq (j_seq ?_)
    refine j_region ?_
    refine jg_adr _ rfl _ rfl rfl (op_move (.base rfl)) ?_
    refine jg_adr _ rfl _ rfl rfl (op_ofield fld40_2 (.base rfl)) ?_
    refine jg_adr _ rfl _ rfl rfl (op_oload ty37 (.base rfl) rfl rfl ln40_2) ?_
    refine jg_adr _ rfl _ rfl rfl (op_len Try.underlying37 (.base rfl)) ?_
    refine jg_adr _ rfl _ rfl rfl (op_lss (.base rfl) (.base rfl)) ?_
    refine jg_nil ?_
    refine jn_keep [1, 3, 33] [1] (.cons rfl (.cons rfl (.cons rfl .nil))) (.cons rfl .nil) ?_
    refine jn_seq ?_
    refine j_cond rfl (fun h4 => ?_) (fun h4 => ?_)
    · simp at h4
      refine j_skip (jn_seq (j_seq (j_block (j_seq ?_))))
      refine j_region ?_
      refine jg_adr _ rfl _ rfl rfl (op_ofield fld40_2 (.base rfl)) ?_
      refine jg_adr _ rfl _ rfl rfl (op_oload ty37 (.base rfl) rfl rfl ln40_2) ?_
      refine jg_adr _ rfl _ rfl rfl (op_move (.base rfl)) ?_
      refine jg_adr _ rfl _ rfl rfl (op_index Try.underlying37 ty54 (.base rfl) (.base rfl) rfl (List.getElem?_eq_getElem (by first | omega | (simp; done) | (simp; omega) | (simp at hg; omega)))) ?_
      refine jg_adr _ rfl _ rfl rfl (op_field fld54_0 ln54_0 (.base rfl)) ?_
      refine jg_adr _ rfl _ rfl rfl (op_load ty9 (.base rfl)) ?_
      refine jg_adr _ rfl _ rfl rfl (op_len_str Try.underlying9 (.base rfl)) ?_
      refine jg_adr _ rfl _ rfl rfl (op_gtr (.base rfl) (.base rfl)) ?_
      refine jg_nil ?_
      refine jn_keep [1, 3, 43] [1] (.cons rfl (.cons rfl (.cons rfl .nil))) (.cons rfl .nil) ?_
      refine jn_seq ?_
      refine j_cond rfl (fun h6 => ?_) (fun h6 => ?_)
      · have h6 : ¬ SmF s.2.2.1[k] := by unfold SmF; simp [List.getElem?_eq_getElem h4] at h6; omega
        refine j_seq ?_
        refine j_region ?_
        refine jg_adr _ rfl _ rfl rfl (op_assign (.base rfl)) ?_
        refine jg_nil ?_
        refine jn_keep [2] [] (.cons rfl .nil) .nil ?_
        refine jn_seq (j_ret (jr_blk (jr_seq (jr_loop (jr_blk (jr_seq ?_))))))
        exact jr_fin1 Try.results23 (res_tmp rfl) rfl (rb ((dB_f (fun q => h6 (q.2.1 _ (List.getElem_mem h4)))).symm))
      · have h6 : SmF s.2.2.1[k] := by unfold SmF; simp [List.getElem?_eq_getElem h4] at h6; omega
        refine j_skip (jn_blk (jn_seq ?_))
        refine j_region ?_
        refine jg_adr _ rfl _ rfl rfl (op_move (.base rfl)) ?_
        refine jg_adr _ rfl _ rfl rfl (op_add (.base rfl) (.base rfl) (w64 (by omega))) ?_
        refine jg_adr _ rfl _ rfl rfl (op_assign (.base rfl)) ?_
        refine jg_nil ?_
        refine jn_keep [1, 3] [1] (.cons rfl (.cons rfl .nil)) (.cons rfl .nil) ?_
        exact jn_loop (fun a w hi => ⟨k + 1, (by first | omega | (simp; omega)), (⟨by omega, all_succ h4 hp h6⟩), (Sub.inv ⟨(by repeat (first | exact SubS_nil | refine SubS_cons rfl (by first | rfl | (simp; done) | assumption) ?_)), (by repeat (first | exact SubH_nil | refine SubH_cons rfl (by first | rfl | (simp; done) | assumption) ?_))⟩ hi)⟩)
    · simp at h4
      have e1 := all_end (by omega) hp
      refine j_exit (je_seq (je_loop (je_blk (jn_seq (j_seq (j_seq ?_))))))
      refine j_region ?_
      refine jg_adr _ rfl _ rfl rfl (op_assign (.base rfl)) ?_
      refine jg_nil ?_
      refine jn_keep [1, 4] [1] (.cons rfl (.cons rfl .nil)) (.cons rfl .nil) ?_
      refine jn_seq (j_block ?_)
      refine j_loopp (ι := Nat) (fun k => ⟨[(1, .optr 1 rScope.n 0 0), (4, .raw (.int .i64 ((k : Nat))))], [(1, ⟨rScope, [s]⟩)]⟩) (fun k => k ≤ s.2.2.2.1.length ∧ ∀ x ∈ s.2.2.2.1.take k, SmF x) (fun k => s.2.2.2.1.length - k) 0 (⟨Nat.zero_le _, all_0 _⟩) (fun a w hi => (Sub.inv ⟨(by repeat (first | exact SubS_nil | refine SubS_cons rfl (by first | rfl | (simp; done) | assumption) ?_)), (by repeat (first | exact SubH_nil | refine SubH_cons rfl (by first | rfl | (simp; done) | assumption) ?_))⟩ hi)) ?_
      rintro k ⟨hk, hp⟩
      refine j_seq (j_seq ?_)
      refine j_region ?_
      refine jg_adr _ rfl _ rfl rfl (op_move (.base rfl)) ?_
      refine jg_adr _ rfl _ rfl rfl (op_ofield fld40_3 (.base rfl)) ?_
      refine jg_adr _ rfl _ rfl rfl (op_oload ty37 (.base rfl) rfl rfl ln40_3) ?_
      refine jg_adr _ rfl _ rfl rfl (op_len Try.underlying37 (.base rfl)) ?_
      refine jg_adr _ rfl _ rfl rfl (op_lss (.base rfl) (.base rfl)) ?_
      refine jg_nil ?_
      refine jn_keep [1, 4, 48] [1] (.cons rfl (.cons rfl (.cons rfl .nil))) (.cons rfl .nil) ?_
      refine jn_seq ?_
      refine j_cond rfl (fun h9 => ?_) (fun h9 => ?_)
      · simp at h9
        refine j_skip (jn_seq (j_seq (j_block (j_seq ?_))))
        refine j_region ?_
        refine jg_adr _ rfl _ rfl rfl (op_ofield fld40_3 (.base rfl)) ?_
        refine jg_adr _ rfl _ rfl rfl (op_oload ty37 (.base rfl) rfl rfl ln40_3) ?_
        refine jg_adr _ rfl _ rfl rfl (op_move (.base rfl)) ?_
        refine jg_adr _ rfl _ rfl rfl (op_index Try.underlying37 ty54 (.base rfl) (.base rfl) rfl (List.getElem?_eq_getElem (by first | omega | (simp; done) | (simp; omega) | (simp at hg; omega)))) ?_
        refine jg_adr _ rfl _ rfl rfl (op_field fld54_0 ln54_0 (.base rfl)) ?_
        refine jg_adr _ rfl _ rfl rfl (op_load ty9 (.base rfl)) ?_
        refine jg_adr _ rfl _ rfl rfl (op_len_str Try.underlying9 (.base rfl)) ?_
        refine jg_adr _ rfl _ rfl rfl (op_gtr (.base rfl) (.base rfl)) ?_
        refine jg_nil ?_
        refine jn_keep [1, 4, 58] [1] (.cons rfl (.cons rfl (.cons rfl .nil))) (.cons rfl .nil) ?_
        refine jn_seq ?_
        refine j_cond rfl (fun h11 => ?_) (fun h11 => ?_)
        · have h11 : ¬ SmF s.2.2.2.1[k] := by unfold SmF; simp [List.getElem?_eq_getElem h9] at h11; omega
          refine j_seq ?_
          refine j_region ?_
          refine jg_adr _ rfl _ rfl rfl (op_assign (.base rfl)) ?_
          refine jg_nil ?_
          refine jn_keep [2] [] (.cons rfl .nil) .nil ?_
          refine jn_seq (j_ret (jr_blk (jr_seq (jr_loop (jr_blk (jr_seq ?_))))))
          exact jr_fin1 Try.results23 (res_tmp rfl) rfl (rb ((dB_f (fun q => h11 (q.2.2.1 _ (List.getElem_mem h9)))).symm))
        · have h11 : SmF s.2.2.2.1[k] := by unfold SmF; simp [List.getElem?_eq_getElem h9] at h11; omega
          refine j_skip (jn_blk (jn_seq ?_))
          refine j_region ?_
          refine jg_adr _ rfl _ rfl rfl (op_move (.base rfl)) ?_
          refine jg_adr _ rfl _ rfl rfl (op_add (.base rfl) (.base rfl) (w64 (by omega))) ?_
          refine jg_adr _ rfl _ rfl rfl (op_assign (.base rfl)) ?_
          refine jg_nil ?_
          refine jn_keep [1, 4] [1] (.cons rfl (.cons rfl .nil)) (.cons rfl .nil) ?_
          exact jn_loop (fun a w hi => ⟨k + 1, (by first | omega | (simp; omega)), (⟨by omega, all_succ h9 hp h11⟩), (Sub.inv ⟨(by repeat (first | exact SubS_nil | refine SubS_cons rfl (by first | rfl | (simp; done) | assumption) ?_)), (by repeat (first | exact SubH_nil | refine SubH_cons rfl (by first | rfl | (simp; done) | assumption) ?_))⟩ hi)⟩)
      · simp at h9
        have e2 := all_end (by omega) hp
        refine j_exit (je_seq (je_loop (je_blk (jn_seq (j_seq (j_seq ?_))))))
        refine j_region ?_
        refine jg_adr _ rfl _ rfl rfl (op_assign (.base rfl)) ?_
        refine jg_nil ?_
        refine jn_keep [1, 5] [1] (.cons rfl (.cons rfl .nil)) (.cons rfl .nil) ?_
        refine jn_seq (j_block ?_)
        refine j_loopp (ι := Nat) (fun k => ⟨[(1, .optr 1 rScope.n 0 0), (5, .raw (.int .i64 ((k : Nat))))], [(1, ⟨rScope, [s]⟩)]⟩) (fun k => k ≤ s.2.2.2.2.length ∧ ∀ x ∈ s.2.2.2.2.take k, SmR x) (fun k => s.2.2.2.2.length - k) 0 (⟨Nat.zero_le _, all_0 _⟩) (fun a w hi => (Sub.inv ⟨(by repeat (first | exact SubS_nil | refine SubS_cons rfl (by first | rfl | (simp; done) | assumption) ?_)), (by repeat (first | exact SubH_nil | refine SubH_cons rfl (by first | rfl | (simp; done) | assumption) ?_))⟩ hi)) ?_
        rintro k ⟨hk, hp⟩
        refine j_seq (j_seq ?_)
        refine j_region ?_
        refine jg_adr _ rfl _ rfl rfl (op_move (.base rfl)) ?_
        refine jg_adr _ rfl _ rfl rfl (op_ofield fld40_4 (.base rfl)) ?_
        refine jg_adr _ rfl _ rfl rfl (op_oload ty38 (.base rfl) rfl rfl ln40_4) ?_
        refine jg_adr _ rfl _ rfl rfl (op_len Try.underlying38 (.base rfl)) ?_
        refine jg_adr _ rfl _ rfl rfl (op_lss (.base rfl) (.base rfl)) ?_
        refine jg_nil ?_
        refine jn_keep [1, 5, 63] [1] (.cons rfl (.cons rfl (.cons rfl .nil))) (.cons rfl .nil) ?_
        refine jn_seq ?_
        refine j_cond rfl (fun h14 => ?_) (fun h14 => ?_)
        · simp at h14
          refine j_skip (jn_seq (j_seq (j_block (j_seq ?_))))
          refine j_region ?_
          refine jg_adr _ rfl _ rfl rfl (op_ofield fld40_4 (.base rfl)) ?_
          refine jg_adr _ rfl _ rfl rfl (op_oload ty38 (.base rfl) rfl rfl ln40_4) ?_
          refine jg_adr _ rfl _ rfl rfl (op_move (.base rfl)) ?_
          refine jg_adr _ rfl _ rfl rfl (op_index Try.underlying38 ty48 (.base rfl) (.base rfl) rfl (List.getElem?_eq_getElem (by first | omega | (simp; done) | (simp; omega) | (simp at hg; omega)))) ?_
          refine jg_adr _ rfl _ rfl rfl (op_load ty48 (.base rfl)) ?_
          refine jg_os _ rfl (op_alloc _ z48 rfl rfl rfl) ?_
          refine jg_os _ rfl (op_ostore ty48 (.base rfl) rfl rfl (Lens.id _) (.tv (.base rfl))) ?_
          refine jg_nil ?_
          refine jn_keep [1, 5, 6] [1, 6] (.cons rfl (.cons rfl (.cons rfl .nil))) (.cons rfl (.cons rfl .nil)) ?_
          refine jn_seq (j_seq ?_)
          refine j_region ?_
          refine jg_adr _ rfl _ rfl rfl (op_ofield fld48_0 (.base rfl)) ?_
          refine jg_adr _ rfl _ rfl rfl (op_oload ty9 (.base rfl) rfl rfl ln48_0) ?_
          refine jg_adr _ rfl _ rfl rfl (op_len_str Try.underlying9 (.base rfl)) ?_
          refine jg_adr _ rfl _ rfl rfl (op_gtr (.base rfl) (.base rfl)) ?_
          refine jg_adr _ rfl _ rfl rfl (op_move (.base rfl)) ?_
          refine jg_gd _ _ _ _ _ _ rfl rfl rfl rfl rfl (fun hg => op_ofield fld48_7 (.base rfl)) ?_
          refine jg_gd _ _ _ _ _ _ rfl rfl rfl rfl rfl (fun hg => op_oload ty9 (.gd rfl hg) rfl rfl ln48_7) ?_
          refine jg_gd _ _ _ _ _ _ rfl rfl rfl rfl rfl (fun hg => op_len_str Try.underlying9 (.gd rfl hg)) ?_
          refine jg_gd _ _ _ _ _ _ rfl rfl rfl rfl rfl (fun hg => op_gtr (.gd rfl hg) (.base rfl)) ?_
          refine jg_adr _ rfl _ rfl rfl (op_pick_or (.base rfl) (.base rfl) rfl (by intro h; first | (rw [h]; rfl) | (rw [hg, h]; rfl) | (rw [h, hg]; rfl) | simp_all)) ?_
          refine jg_adr _ rfl _ rfl rfl (op_move (.base rfl)) ?_
          refine jg_gd _ _ _ _ _ _ rfl rfl rfl rfl rfl (fun hg => op_ofield fld48_5 (.base rfl)) ?_
          refine jg_gd _ _ _ _ _ _ rfl rfl rfl rfl rfl (fun hg => op_oload ty46 (.gd rfl hg) rfl rfl ln48_5) ?_
          refine jg_gd _ _ _ _ _ _ rfl rfl rfl rfl rfl (fun hg => op_len Try.underlying46 (.gd rfl hg)) ?_
          refine jg_gd _ _ _ _ _ _ rfl rfl rfl rfl rfl (fun hg => op_gtr (.gd rfl hg) (.base rfl)) ?_
          refine jg_adr _ rfl _ rfl rfl (op_pick_or (.base rfl) (.base rfl) rfl (by intro h; first | (rw [h]; rfl) | (rw [hg, h]; rfl) | (rw [h, hg]; rfl) | simp_all)) ?_
          refine jg_adr _ rfl _ rfl rfl (op_move (.base rfl)) ?_
          refine jg_gd _ _ _ _ _ _ rfl rfl rfl rfl rfl (fun hg => op_ofield fld48_6 (.base rfl)) ?_
          refine jg_gd _ _ _ _ _ _ rfl rfl rfl rfl rfl (fun hg => op_oload ty46 (.gd rfl hg) rfl rfl ln48_6) ?_
          refine jg_gd _ _ _ _ _ _ rfl rfl rfl rfl rfl (fun hg => op_len Try.underlying46 (.gd rfl hg)) ?_
          refine jg_gd _ _ _ _ _ _ rfl rfl rfl rfl rfl (fun hg => op_gtr (.gd rfl hg) (.base rfl)) ?_
          refine jg_adr _ rfl _ rfl rfl (op_pick_or (.base rfl) (.base rfl) rfl (by intro h; first | (rw [h]; rfl) | (rw [hg, h]; rfl) | (rw [h, hg]; rfl) | simp_all)) ?_
          refine jg_nil ?_
          refine jn_keep [1, 5, 92] [1] (.cons rfl (.cons rfl (.cons rfl .nil))) (.cons rfl .nil) ?_
          refine jn_seq ?_
          refine j_cond rfl (fun h17 => ?_) (fun h17 => ?_)
          · have h17 : ¬ SmR s.2.2.2.2[k] := by unfold SmR; simp [List.getElem?_eq_getElem h14] at h17; omega
            refine j_seq ?_
            refine j_region ?_
            refine jg_adr _ rfl _ rfl rfl (op_assign (.base rfl)) ?_
            refine jg_nil ?_
            refine jn_keep [2] [] (.cons rfl .nil) .nil ?_
            refine jn_seq (j_ret (jr_blk (jr_seq (jr_loop (jr_blk (jr_seq ?_))))))
            exact jr_fin1 Try.results23 (res_tmp rfl) rfl (rb ((dB_f (fun q => h17 (q.2.2.2 _ (List.getElem_mem h14)))).symm))
          · have h17 : SmR s.2.2.2.2[k] := by unfold SmR; simp [List.getElem?_eq_getElem h14] at h17; omega
            refine j_skip (jn_blk (jn_seq ?_))
            refine j_region ?_
            refine jg_adr _ rfl _ rfl rfl (op_move (.base rfl)) ?_
            refine jg_adr _ rfl _ rfl rfl (op_add (.base rfl) (.base rfl) (w64 (by omega))) ?_
            refine jg_adr _ rfl _ rfl rfl (op_assign (.base rfl)) ?_
            refine jg_nil ?_
            refine jn_keep [1, 5] [1] (.cons rfl (.cons rfl .nil)) (.cons rfl .nil) ?_
            exact jn_loop (fun a w hi => ⟨k + 1, (by first | omega | (simp; omega)), (⟨by omega, all_succ h14 hp h17⟩), (Sub.inv ⟨(by repeat (first | exact SubS_nil | refine SubS_cons rfl (by first | rfl | (simp; done) | assumption) ?_)), (by repeat (first | exact SubH_nil | refine SubH_cons rfl (by first | rfl | (simp; done) | assumption) ?_))⟩ hi)⟩)
        · simp at h14
          have e3 := all_end (by omega) hp
          refine j_exit (je_seq (je_loop (je_blk (jn_seq (j_seq ?_)))))
          refine j_region ?_
          refine jg_adr _ rfl _ rfl rfl (op_assign (.base rfl)) ?_
          refine jg_nil ?_
          refine jn_keep [2] [] (.cons rfl .nil) .nil ?_
          refine jn_seq (j_ret ?_)
          exact jr_fin1 Try.results23 (res_tmp rfl) rfl (rb ((dB_t (⟨h1, e1, e2, e3⟩)).symm))

theorem smallL_ok (l : TLaw) (hw : WL l) : Ct Try.prog 9 [.tv rLaw l] (.raw (.bool (dB (SmL l)))) := by
  refine ct_intro Try.func9 rfl rfl Try.ntmps9 rfl rfl ?_
  intro w0 ok0
  refine j_seq ?_
  refine j_region ?_
  refine jg_os _ rfl (op_box (.tv (.base rfl)) rfl rfl rfl) ?_
  refine jg_adr _ rfl _ rfl rfl (op_assign (.base rfl)) ?_
  refine jg_nil ?_
  refine jn_keep [1] [1] (.cons rfl .nil) (.cons rfl .nil) ?_
  refine jn_seq (j_seq (j_seq ?_))
  refine j_region ?_
  refine jg_adr _ rfl _ rfl rfl (op_ofield fld26_0 (.base rfl)) ?_
  refine jg_adr _ rfl _ rfl rfl (op_oload ty22 (.base rfl) rfl rfl ln26_0) ?_
  refine jg_adr _ rfl _ rfl rfl (op_len Try.underlying22 (.base rfl)) ?_
  refine jg_adr _ rfl _ rfl rfl (op_gtr (.base rfl) (.base rfl)) ?_
  refine jg_adr _ rfl _ rfl rfl (op_move (.base rfl)) ?_
  refine jg_gd _ _ _ _ _ _ rfl rfl rfl rfl rfl (fun hg => op_ofield fld26_1 (.base rfl)) ?_
  refine jg_gd _ _ _ _ _ _ rfl rfl rfl rfl rfl (fun hg => op_oload ty23 (.gd rfl hg) rfl rfl ln26_1) ?_
  refine jg_gd _ _ _ _ _ _ rfl rfl rfl rfl rfl (fun hg => op_len Try.underlying23 (.gd rfl hg)) ?_
  refine jg_gd _ _ _ _ _ _ rfl rfl rfl rfl rfl (fun hg => op_gtr (.gd rfl hg) (.base rfl)) ?_
  refine jg_adr _ rfl _ rfl rfl (op_pick_or (.base rfl) (.base rfl) rfl (by intro h; first | (rw [h]; rfl) | (rw [hg, h]; rfl) | (rw [h, hg]; rfl) | simp_all)) ?_
  refine jg_adr _ rfl _ rfl rfl (op_move (.base rfl)) ?_
  refine jg_gd _ _ _ _ _ _ rfl rfl rfl rfl rfl (fun hg => op_ofield fld26_2 (.base rfl)) ?_
  refine jg_gd _ _ _ _ _ _ rfl rfl rfl rfl rfl (fun hg => op_oload ty24 (.gd rfl hg) rfl rfl ln26_2) ?_
  refine jg_gd _ _ _ _ _ _ rfl rfl rfl rfl rfl (fun hg => op_len Try.underlying24 (.gd rfl hg)) ?_
  refine jg_gd _ _ _ _ _ _ rfl rfl rfl rfl rfl (fun hg => op_gtr (.gd rfl hg) (.base rfl)) ?_
  refine jg_adr _ rfl _ rfl rfl (op_pick_or (.base rfl) (.base rfl) rfl (by intro h; first | (rw [h]; rfl) | (rw [hg, h]; rfl) | (rw [h, hg]; rfl) | simp_all)) ?_
  refine jg_nil ?_
  refine jn_keep [1, 24] [1] (.cons rfl (.cons rfl .nil)) (.cons rfl .nil) ?_
  refine jn_seq ?_
  refine j_cond rfl (fun h1 => ?_) (fun h1 => ?_)
  · have h1 : ¬ (l.1.length ≤ 9 ∧ l.2.1.length ≤ 9 ∧ l.2.2.length ≤ 5) := by simp at h1; omega
    refine j_seq ?_
    refine j_region ?_
    refine jg_adr _ rfl _ rfl rfl (op_assign (.base rfl)) ?_
    refine jg_nil ?_
    refine jn_keep [2] [] (.cons rfl .nil) .nil ?_
    refine jn_seq (j_ret (jr_seq ?_))
    exact jr_fin1 Try.results9 (res_tmp rfl) rfl (rb ((dB_f (fun q => h1 q.1)).symm))
  · have h1 : l.1.length ≤ 9 ∧ l.2.1.length ≤ 9 ∧ l.2.2.length ≤ 5 := by simp at h1; omega
    refine j_skip (jn_seq (j_seq ?_))
    refine j_region ?_
    refine jg_adr _ rfl _ rfl rfl (op_assign (.base rfl)) ?_
    refine jg_nil ?_
    refine jn_keep [1, 3] [1] (.cons rfl (.cons rfl .nil)) (.cons rfl .nil) ?_
    refine jn_seq (j_seq ?_)
    refine j_region ?_
    refine jg_adr _ rfl _ rfl rfl (op_assign (.base rfl)) ?_
    refine jg_nil ?_
    refine jn_keep [1, 3, 4] [1] (.cons rfl (.cons rfl (.cons rfl .nil))) (.cons rfl .nil) ?_
    refine jn_seq (j_seq (j_seq ?_))
    refine j_region ?_
    refine jg_adr _ rfl _ rfl rfl (op_assign (.base rfl)) ?_
    refine jg_nil ?_
    refine jn_keep [1, 3, 4, 5] [1] (.cons rfl (.cons rfl (.cons rfl (.cons rfl .nil)))) (.cons rfl .nil) ?_
    refine jn_seq (j_block ?_)
    refine j_loopp (ι := Nat) (fun k => ⟨[(1, .optr 1 rLaw.n 0 0), (3, .raw (.int .i64 (0))), (4, .raw (.int .i64 (0))), (5, .raw (.int .i64 ((k : Nat))))], [(1, ⟨rLaw, [l]⟩)]⟩) (fun k => k ≤ l.1.length ∧ ∀ x ∈ l.1.take k, SmE x) (fun k => l.1.length - k) 0 (⟨Nat.zero_le _, all_0 _⟩) (fun a w hi => (Sub.inv ⟨(by repeat (first | exact SubS_nil | refine SubS_cons rfl (by first | rfl | (simp; done) | assumption) ?_)), (by repeat (first | exact SubH_nil | refine SubH_cons rfl (by first | rfl | (simp; done) | assumption) ?_))⟩ hi)) ?_
    rintro k ⟨hk, hp⟩
    refine j_seq (j_seq ?_)
    refine j_region ?_
    refine jg_adr _ rfl _ rfl rfl (op_move (.base rfl)) ?_
    refine jg_adr _ rfl _ rfl rfl (op_ofield fld26_0 (.base rfl)) ?_
    refine jg_adr _ rfl _ rfl rfl (op_oload ty22 (.base rfl) rfl rfl ln26_0) ?_
    refine jg_adr _ rfl _ rfl rfl (op_len Try.underlying22 (.base rfl)) ?_
    refine jg_adr _ rfl _ rfl rfl (op_lss (.base rfl) (.base rfl)) ?_
    refine jg_nil ?_
    refine jn_keep [1, 3, 4, 5, 29] [1] (.cons rfl (.cons rfl (.cons rfl (.cons rfl (.cons rfl .nil))))) (.cons rfl .nil) ?_
    refine jn_seq ?_
    refine j_cond rfl (fun h6 => ?_) (fun h6 => ?_)
    · simp at h6
      refine j_skip (jn_seq (j_seq (j_block (j_seq (j_seq ?_)))))
      refine j_region ?_
      refine jg_adr _ rfl _ rfl rfl (op_ofield fld26_0 (.base rfl)) ?_
      refine jg_adr _ rfl _ rfl rfl (op_oload ty22 (.base rfl) rfl rfl ln26_0) ?_
      refine jg_adr _ rfl _ rfl rfl (op_move (.base rfl)) ?_
      refine jg_adr _ rfl _ rfl rfl (op_index Try.underlying22 ty61 (.base rfl) (.base rfl) rfl (List.getElem?_eq_getElem (by first | omega | (simp; done) | (simp; omega) | (simp at hg; omega)))) ?_
      refine jg_adr _ rfl _ rfl rfl (op_field fld61_0 ln61_0 (.base rfl)) ?_
      refine jg_adr _ rfl _ rfl rfl (op_load ty9 (.base rfl)) ?_
      refine jg_adr _ rfl _ rfl rfl (op_len_str Try.underlying9 (.base rfl)) ?_
      refine jg_adr _ rfl _ rfl rfl (op_gtr (.base rfl) (.base rfl)) ?_
      refine jg_adr _ rfl _ rfl rfl (op_move (.base rfl)) ?_
      refine jg_gd _ _ _ _ _ _ rfl rfl rfl rfl rfl (fun hg => op_ofield fld26_0 (.base rfl)) ?_
      refine jg_gd _ _ _ _ _ _ rfl rfl rfl rfl rfl (fun hg => op_oload ty22 (.gd rfl hg) rfl rfl ln26_0) ?_
      refine jg_gd _ _ _ _ _ _ rfl rfl rfl rfl rfl (fun hg => op_move (.base rfl)) ?_
      refine jg_gd _ _ _ _ _ _ rfl rfl rfl rfl rfl (fun hg => op_index Try.underlying22 ty61 (.gd rfl hg) (.gd rfl hg) rfl (getD_some (z := (([], []) : TEnum)) (by first | omega | (simp; done) | (simp; omega) | (simp at hg; omega) | (simp at hg; simp; omega)))) ?_
      refine jg_gd _ _ _ _ _ _ rfl rfl rfl rfl rfl (fun hg => op_field fld61_1 ln61_1 (.gd rfl hg)) ?_
      refine jg_gd _ _ _ _ _ _ rfl rfl rfl rfl rfl (fun hg => op_load ty59 (.gd rfl hg)) ?_
      refine jg_gd _ _ _ _ _ _ rfl rfl rfl rfl rfl (fun hg => op_len Try.underlying59 (.gd rfl hg)) ?_
      refine jg_gd _ _ _ _ _ _ rfl rfl rfl rfl rfl (fun hg => op_gtr (.gd rfl hg) (.base rfl)) ?_
      refine jg_adr _ rfl _ rfl rfl (op_pick_or (.base rfl) (.base rfl) rfl (by intro h; first | (rw [h]; rfl) | (rw [hg, h]; rfl) | (rw [h, hg]; rfl) | simp_all)) ?_
      refine jg_nil ?_
      refine jn_keep [1, 3, 4, 5, 49] [1] (.cons rfl (.cons rfl (.cons rfl (.cons rfl (.cons rfl .nil))))) (.cons rfl .nil) ?_
      refine jn_seq ?_
      refine j_cond rfl (fun h8 => ?_) (fun h8 => ?_)
      · have h8 : ¬ ((l.1[k]'h6).1.length ≤ 80 ∧ (l.1[k]'h6).2.length ≤ 20) := by simp [List.getElem?_eq_getElem h6] at h8; omega
        refine j_seq ?_
        refine j_region ?_
        refine jg_adr _ rfl _ rfl rfl (op_assign (.base rfl)) ?_
        refine jg_nil ?_
        refine jn_keep [2] [] (.cons rfl .nil) .nil ?_
        refine jn_seq (j_ret (jr_seq (jr_blk (jr_seq (jr_loop (jr_blk (jr_seq ?_)))))))
        exact jr_fin1 Try.results9 (res_tmp rfl) rfl (rb ((dB_f (fun q => h8 ⟨(q.2.1 _ (List.getElem_mem h6)).1, (q.2.1 _ (List.getElem_mem h6)).2.1⟩)).symm))
      · have h8 : (l.1[k]'h6).1.length ≤ 80 ∧ (l.1[k]'h6).2.length ≤ 20 := by simp [List.getElem?_eq_getElem h6] at h8; omega
        refine j_skip (jn_seq (j_seq ?_))
        refine j_region ?_
        refine jg_adr _ rfl _ rfl rfl (op_assign (.base rfl)) ?_
        refine jg_nil ?_
        refine jn_keep [1, 3, 4, 5, 6] [1] (.cons rfl (.cons rfl (.cons rfl (.cons rfl (.cons rfl .nil))))) (.cons rfl .nil) ?_
        refine jn_seq (j_block ?_)
        refine j_loopp (ι := Nat) (fun j => ⟨[(1, .optr 1 rLaw.n 0 0), (3, .raw (.int .i64 (0))), (4, .raw (.int .i64 (0))), (5, .raw (.int .i64 ((k : Nat)))), (6, .raw (.int .i64 ((j : Nat))))], [(1, ⟨rLaw, [l]⟩)]⟩) (fun j => j ≤ (l.1[k]'h6).2.length ∧ ∀ x ∈ (l.1[k]'h6).2.take j, x.length ≤ 80) (fun j => (l.1[k]'h6).2.length - j) 0 (⟨Nat.zero_le _, all_0 _⟩) (fun a w hi => (Sub.inv ⟨(by repeat (first | exact SubS_nil | refine SubS_cons rfl (by first | rfl | (simp; done) | assumption) ?_)), (by repeat (first | exact SubH_nil | refine SubH_cons rfl (by first | rfl | (simp; done) | assumption) ?_))⟩ hi)) ?_
        rintro j ⟨hj, hq⟩
        refine j_seq (j_seq ?_)
        refine j_region ?_
        refine jg_adr _ rfl _ rfl rfl (op_move (.base rfl)) ?_
        refine jg_adr _ rfl _ rfl rfl (op_ofield fld26_0 (.base rfl)) ?_
        refine jg_adr _ rfl _ rfl rfl (op_oload ty22 (.base rfl) rfl rfl ln26_0) ?_
        refine jg_adr _ rfl _ rfl rfl (op_move (.base rfl)) ?_
        refine jg_adr _ rfl _ rfl rfl (op_index Try.underlying22 ty61 (.base rfl) (.base rfl) rfl (List.getElem?_eq_getElem (by first | omega | (simp; done) | (simp; omega) | (simp at hg; omega)))) ?_
        refine jg_adr _ rfl _ rfl rfl (op_field fld61_1 ln61_1 (.base rfl)) ?_
        refine jg_adr _ rfl _ rfl rfl (op_load ty59 (.base rfl)) ?_
        refine jg_adr _ rfl _ rfl rfl (op_len Try.underlying59 (.base rfl)) ?_
        refine jg_adr _ rfl _ rfl rfl (op_lss (.base rfl) (.base rfl)) ?_
        refine jg_nil ?_
        refine jn_keep [1, 3, 4, 5, 6, 58] [1] (.cons rfl (.cons rfl (.cons rfl (.cons rfl (.cons rfl (.cons rfl .nil)))))) (.cons rfl .nil) ?_
        refine jn_seq ?_
        refine j_cond rfl (fun h11 => ?_) (fun h11 => ?_)
        · have h11 : j < (l.1[k]'h6).2.length := by simpa [List.getElem?_eq_getElem h6] using h11
          refine j_skip (jn_seq (j_seq (j_block (j_seq ?_))))
          refine j_region ?_
          refine jg_adr _ rfl _ rfl rfl (op_ofield fld26_0 (.base rfl)) ?_
          refine jg_adr _ rfl _ rfl rfl (op_oload ty22 (.base rfl) rfl rfl ln26_0) ?_
          refine jg_adr _ rfl _ rfl rfl (op_move (.base rfl)) ?_
          refine jg_adr _ rfl _ rfl rfl (op_index Try.underlying22 ty61 (.base rfl) (.base rfl) rfl (List.getElem?_eq_getElem (by first | omega | (simp; done) | (simp; omega) | (simp at hg; omega)))) ?_
          refine jg_adr _ rfl _ rfl rfl (op_field fld61_1 ln61_1 (.base rfl)) ?_
          refine jg_adr _ rfl _ rfl rfl (op_load ty59 (.base rfl)) ?_
          refine jg_adr _ rfl _ rfl rfl (op_move (.base rfl)) ?_
          refine jg_adr _ rfl _ rfl rfl (op_index Try.underlying59 ty9 (.base rfl) (.base rfl) rfl (List.getElem?_eq_getElem (by first | omega | (simp; done) | (simp; omega) | (simp at hg; omega)))) ?_
          refine jg_adr _ rfl _ rfl rfl (op_load ty9 (.base rfl)) ?_
          refine jg_adr _ rfl _ rfl rfl (op_len_str Try.underlying9 (.base rfl)) ?_
          refine jg_adr _ rfl _ rfl rfl (op_gtr (.base rfl) (.base rfl)) ?_
          refine jg_nil ?_
          refine jn_keep [1, 3, 4, 5, 6, 71] [1] (.cons rfl (.cons rfl (.cons rfl (.cons rfl (.cons rfl (.cons rfl .nil)))))) (.cons rfl .nil) ?_
          refine jn_seq ?_
          refine j_cond rfl (fun h13 => ?_) (fun h13 => ?_)
          · have h13 : ¬ ((l.1[k]'h6).2[j]).length ≤ 80 := by simp at h13; omega
            refine j_seq ?_
            refine j_region ?_
            refine jg_adr _ rfl _ rfl rfl (op_assign (.base rfl)) ?_
            refine jg_nil ?_
            refine jn_keep [2] [] (.cons rfl .nil) .nil ?_
            refine jn_seq (j_ret (jr_blk (jr_seq (jr_loop (jr_blk (jr_blk (jr_seq (jr_loop (jr_blk (jr_seq ?_))))))))))
            exact jr_fin1 Try.results9 (res_tmp rfl) rfl (rb ((dB_f (fun q => h13 ((q.2.1 _ (List.getElem_mem h6)).2.2 _ (List.getElem_mem h11)))).symm))
          · have h13 : ((l.1[k]'h6).2[j]).length ≤ 80 := by simp at h13; omega
            refine j_skip (jn_blk (jn_seq ?_))
            refine j_region ?_
            refine jg_adr _ rfl _ rfl rfl (op_move (.base rfl)) ?_
            refine jg_adr _ rfl _ rfl rfl (op_add (.base rfl) (.base rfl) (w64 (by omega))) ?_
            refine jg_adr _ rfl _ rfl rfl (op_assign (.base rfl)) ?_
            refine jg_nil ?_
            refine jn_keep [1, 3, 4, 5, 6] [1] (.cons rfl (.cons rfl (.cons rfl (.cons rfl (.cons rfl .nil))))) (.cons rfl .nil) ?_
            exact jn_loop (fun a w hi => ⟨j + 1, (by first | omega | (simp; omega)), (⟨by omega, all_succ h11 hq h13⟩), (Sub.inv ⟨(by repeat (first | exact SubS_nil | refine SubS_cons rfl (by first | rfl | (simp; done) | assumption) ?_)), (by repeat (first | exact SubH_nil | refine SubH_cons rfl (by first | rfl | (simp; done) | assumption) ?_))⟩ hi)⟩)
        · have h11 : ¬ j < (l.1[k]'h6).2.length := by simpa [List.getElem?_eq_getElem h6] using h11
          have e0 := all_end (by omega) hq
          refine j_exit (je_seq (je_loop (je_blk (jn_blk (jn_seq ?_)))))
          refine j_region ?_
          refine jg_adr _ rfl _ rfl rfl (op_move (.base rfl)) ?_
          refine jg_adr _ rfl _ rfl rfl (op_add (.base rfl) (.base rfl) (w64 (by omega))) ?_
          refine jg_adr _ rfl _ rfl rfl (op_assign (.base rfl)) ?_
          refine jg_nil ?_
          refine jn_keep [1, 3, 4, 5] [1] (.cons rfl (.cons rfl (.cons rfl (.cons rfl .nil)))) (.cons rfl .nil) ?_
          exact jn_loop (fun a w hi => ⟨k + 1, (by first | omega | (simp; omega)), (⟨by omega, all_succ h6 hp ⟨h8.1, h8.2, e0⟩⟩), (Sub.inv ⟨(by repeat (first | exact SubS_nil | refine SubS_cons rfl (by first | rfl | (simp; done) | assumption) ?_)), (by repeat (first | exact SubH_nil | refine SubH_cons rfl (by first | rfl | (simp; done) | assumption) ?_))⟩ hi)⟩)
    · simp at h6
      have e1 := all_end (by omega) hp
      refine j_exit (je_seq (je_loop (je_blk (jn_seq (j_seq (j_seq ?_))))))
      refine j_region ?_
      refine jg_adr _ rfl _ rfl rfl (op_assign (.base rfl)) ?_
      refine jg_nil ?_
      refine jn_keep [1, 3, 4, 7] [1] (.cons rfl (.cons rfl (.cons rfl (.cons rfl .nil)))) (.cons rfl .nil) ?_
      refine jn_seq (j_block ?_)
      refine j_loopp (ι := Nat) (fun k => ⟨[(1, .optr 1 rLaw.n 0 0), (3, .raw (.int .i64 (sumT (l.2.1.take k)))), (4, .raw (.int .i64 (0))), (7, .raw (.int .i64 ((k : Nat))))], [(1, ⟨rLaw, [l]⟩)]⟩) (fun k => k ≤ l.2.1.length ∧ (∀ x ∈ l.2.1.take k, SmT x) ∧ sumT (l.2.1.take k) ≤ 150) (fun k => l.2.1.length - k) 0 (⟨Nat.zero_le _, ⟨all_0 _, by simp [sumT]⟩⟩) (fun a w hi => (Sub.inv ⟨(by repeat (first | exact SubS_nil | refine SubS_cons rfl (by first | rfl | (simp; done) | assumption) ?_)), (by repeat (first | exact SubH_nil | refine SubH_cons rfl (by first | rfl | (simp; done) | assumption) ?_))⟩ hi)) ?_
      rintro k ⟨hk, hp⟩
      have hmx : ∀ t ∈ l.2.1, t.2.2.2.length ≤ 9223372036854775000 ∨ True := fun _ _ => .inr trivial
      refine j_seq (j_seq ?_)
      refine j_region ?_
      refine jg_adr _ rfl _ rfl rfl (op_move (.base rfl)) ?_
      refine jg_adr _ rfl _ rfl rfl (op_ofield fld26_1 (.base rfl)) ?_
      refine jg_adr _ rfl _ rfl rfl (op_oload ty23 (.base rfl) rfl rfl ln26_1) ?_
      refine jg_adr _ rfl _ rfl rfl (op_len Try.underlying23 (.base rfl)) ?_
      refine jg_adr _ rfl _ rfl rfl (op_lss (.base rfl) (.base rfl)) ?_
      refine jg_nil ?_
      refine jn_keep [1, 3, 4, 7, 76] [1] (.cons rfl (.cons rfl (.cons rfl (.cons rfl (.cons rfl .nil))))) (.cons rfl .nil) ?_
      refine jn_seq ?_
      refine j_cond rfl (fun h16 => ?_) (fun h16 => ?_)
      · simp at h16
        have hst := sumT_succ h16
        have hwk := hw.1 _ (List.getElem_mem h16)
        refine j_skip (jn_seq (j_seq (j_block (j_seq ?_))))
        refine j_region ?_
        refine jg_adr _ rfl _ rfl rfl (op_move (.base rfl)) ?_
        refine jg_adr _ rfl _ rfl rfl (op_ofield fld26_1 (.base rfl)) ?_
        refine jg_adr _ rfl _ rfl rfl (op_oload ty23 (.base rfl) rfl rfl ln26_1) ?_
        refine jg_adr _ rfl _ rfl rfl (op_move (.base rfl)) ?_
        refine jg_adr _ rfl _ rfl rfl (op_index Try.underlying23 ty64 (.base rfl) (.base rfl) rfl (List.getElem?_eq_getElem (by first | omega | (simp; done) | (simp; omega) | (simp at hg; omega)))) ?_
        refine jg_adr _ rfl _ rfl rfl (op_field fld64_3 ln64_3 (.base rfl)) ?_
        refine jg_adr _ rfl _ rfl rfl (op_load ty62 (.base rfl)) ?_
        refine jg_adr _ rfl _ rfl rfl (op_len Try.underlying62 (.base rfl)) ?_
        refine jg_adr _ rfl _ rfl rfl (op_add (.base rfl) (.base rfl) (w64 (by omega))) ?_
        refine jg_adr _ rfl _ rfl rfl (op_assign (.base rfl)) ?_
        refine jg_nil ?_
        refine jn_keep [1, 3, 4, 7] [1] (.cons rfl (.cons rfl (.cons rfl (.cons rfl .nil)))) (.cons rfl .nil) ?_
        refine jn_seq (j_seq ?_)
        refine j_region ?_
        refine jg_adr _ rfl _ rfl rfl (op_ofield fld26_1 (.base rfl)) ?_
        refine jg_adr _ rfl _ rfl rfl (op_oload ty23 (.base rfl) rfl rfl ln26_1) ?_
        refine jg_adr _ rfl _ rfl rfl (op_move (.base rfl)) ?_
        refine jg_adr _ rfl _ rfl rfl (op_index Try.underlying23 ty64 (.base rfl) (.base rfl) rfl (List.getElem?_eq_getElem (by first | omega | (simp; done) | (simp; omega) | (simp at hg; omega)))) ?_
        refine jg_adr _ rfl _ rfl rfl (op_field fld64_0 ln64_0 (.base rfl)) ?_
        refine jg_adr _ rfl _ rfl rfl (op_load ty9 (.base rfl)) ?_
        refine jg_adr _ rfl _ rfl rfl (op_len_str Try.underlying9 (.base rfl)) ?_
        refine jg_adr _ rfl _ rfl rfl (op_gtr (.base rfl) (.base rfl)) ?_
        refine jg_adr _ rfl _ rfl rfl (op_move (.base rfl)) ?_
        refine jg_gd _ _ _ _ _ _ rfl rfl rfl rfl rfl (fun hg => op_move (.base rfl)) ?_
        refine jg_gd _ _ _ _ _ _ rfl rfl rfl rfl rfl (fun hg => op_gtr (.gd rfl hg) (.base rfl)) ?_
        refine jg_adr _ rfl _ rfl rfl (op_pick_or (.base rfl) (.base rfl) rfl (by intro h; first | (rw [h]; rfl) | (rw [hg, h]; rfl) | (rw [h, hg]; rfl) | simp_all)) ?_
        refine jg_nil ?_
        refine jn_keep [1, 3, 4, 7, 99] [1] (.cons rfl (.cons rfl (.cons rfl (.cons rfl (.cons rfl .nil))))) (.cons rfl .nil) ?_
        refine jn_seq ?_
        refine j_cond rfl (fun h19 => ?_) (fun h19 => ?_)
        · have h19 : ¬ ((l.2.1[k]).1.length ≤ 80 ∧ sumT (l.2.1.take k) + (l.2.1[k]).2.2.2.length ≤ 150) := by simp [List.getElem?_eq_getElem h16] at h19; omega
          refine j_seq ?_
          refine j_region ?_
          refine jg_adr _ rfl _ rfl rfl (op_assign (.base rfl)) ?_
          refine jg_nil ?_
          refine jn_keep [2] [] (.cons rfl .nil) .nil ?_
          refine jn_seq (j_ret (jr_blk (jr_seq (jr_loop (jr_blk (jr_seq ?_))))))
          exact jr_fin1 Try.results9 (res_tmp rfl) rfl (rb ((dB_f (fun q => h19 ⟨q.2.2.1.1 _ (List.getElem_mem h16), by have := sumT_le l.2.1 (k + 1); rw [hst] at this; have := q.2.2.1.2; omega⟩)).symm))
        · have h19 : (l.2.1[k]).1.length ≤ 80 ∧ sumT (l.2.1.take k) + (l.2.1[k]).2.2.2.length ≤ 150 := by simp [List.getElem?_eq_getElem h16] at h19; omega
          refine j_skip (jn_blk (jn_seq ?_))
          refine j_region ?_
          refine jg_adr _ rfl _ rfl rfl (op_move (.base rfl)) ?_
          refine jg_adr _ rfl _ rfl rfl (op_add (.base rfl) (.base rfl) (w64 (by omega))) ?_
          refine jg_adr _ rfl _ rfl rfl (op_assign (.base rfl)) ?_
          refine jg_nil ?_
          refine jn_keep [1, 3, 4, 7] [1] (.cons rfl (.cons rfl (.cons rfl (.cons rfl .nil)))) (.cons rfl .nil) ?_
          exact jn_loop (fun a w hi => ⟨k + 1, (by omega), ⟨by omega, all_succ h16 hp.1 h19.1, by rw [hst]; exact h19.2⟩, Sub.inv ⟨(by repeat (first | exact SubS_nil | refine SubS_cons rfl (by first | rfl | exact congrArg (fun z : Int => SV.raw (Value.int .i64 z)) (by rw [hst]; omega)) ?_)), (by repeat (first | exact SubH_nil | refine SubH_cons rfl (by first | rfl | (simp; done) | assumption) ?_))⟩ hi⟩)
      · simp at h16
        have e2 := all_end (by omega) hp.1
        have e3 := hp.2
        rw [List.take_of_length_le (by omega)] at e3
        refine j_exit (je_seq (je_loop (je_blk (jn_seq (j_seq (j_seq ?_))))))
        refine j_region ?_
        refine jg_adr _ rfl _ rfl rfl (op_assign (.base rfl)) ?_
        refine jg_nil ?_
        refine jn_keep [1, 4, 8] [1] (.cons rfl (.cons rfl (.cons rfl .nil))) (.cons rfl .nil) ?_
        refine jn_seq (j_block ?_)
        refine j_loopp (ι := Nat) (fun k => ⟨[(1, .optr 1 rLaw.n 0 0), (4, .raw (.int .i64 (sumS (l.2.2.take k)))), (8, .raw (.int .i64 ((k : Nat))))], [(1, ⟨rLaw, [l]⟩)]⟩) (fun k => k ≤ l.2.2.length ∧ (∀ x ∈ l.2.2.take k, SmS x) ∧ sumS (l.2.2.take k) ≤ 60) (fun k => l.2.2.length - k) 0 (⟨Nat.zero_le _, ⟨all_0 _, by simp [sumS]⟩⟩) (fun a w hi => (Sub.inv ⟨(by repeat (first | exact SubS_nil | refine SubS_cons rfl (by first | rfl | (simp; done) | assumption) ?_)), (by repeat (first | exact SubH_nil | refine SubH_cons rfl (by first | rfl | (simp; done) | assumption) ?_))⟩ hi)) ?_
        rintro k ⟨hk, hp⟩
        refine j_seq (j_seq ?_)
        refine j_region ?_
        refine jg_adr _ rfl _ rfl rfl (op_move (.base rfl)) ?_
        refine jg_adr _ rfl _ rfl rfl (op_ofield fld26_2 (.base rfl)) ?_
        refine jg_adr _ rfl _ rfl rfl (op_oload ty24 (.base rfl) rfl rfl ln26_2) ?_
        refine jg_adr _ rfl _ rfl rfl (op_len Try.underlying24 (.base rfl)) ?_
        refine jg_adr _ rfl _ rfl rfl (op_lss (.base rfl) (.base rfl)) ?_
        refine jg_nil ?_
        refine jn_keep [1, 4, 8, 104] [1] (.cons rfl (.cons rfl (.cons rfl (.cons rfl .nil)))) (.cons rfl .nil) ?_
        refine jn_seq ?_
        refine j_cond rfl (fun h22 => ?_) (fun h22 => ?_)
        · simp at h22
          have hst := sumS_succ h22
          have hwk := hw.2 _ (List.getElem_mem h22)
          refine j_skip (jn_seq (j_seq (j_block (j_seq ?_))))
          refine j_region ?_
          refine jg_adr _ rfl _ rfl rfl (op_move (.base rfl)) ?_
          refine jg_adr _ rfl _ rfl rfl (op_ofield fld26_2 (.base rfl)) ?_
          refine jg_adr _ rfl _ rfl rfl (op_oload ty24 (.base rfl) rfl rfl ln26_2) ?_
          refine jg_adr _ rfl _ rfl rfl (op_move (.base rfl)) ?_
          refine jg_adr _ rfl _ rfl rfl (op_index Try.underlying24 ty40 (.base rfl) (.base rfl) rfl (List.getElem?_eq_getElem (by first | omega | (simp; done) | (simp; omega) | (simp at hg; omega)))) ?_
          refine jg_adr _ rfl _ rfl rfl (op_field fld40_4 ln40_4 (.base rfl)) ?_
          refine jg_adr _ rfl _ rfl rfl (op_load ty38 (.base rfl)) ?_
          refine jg_adr _ rfl _ rfl rfl (op_len Try.underlying38 (.base rfl)) ?_
          refine jg_adr _ rfl _ rfl rfl (op_add (.base rfl) (.base rfl) (w64 (by omega))) ?_
          refine jg_adr _ rfl _ rfl rfl (op_assign (.base rfl)) ?_
          refine jg_nil ?_
          refine jn_keep [1, 4, 8] [1] (.cons rfl (.cons rfl (.cons rfl .nil))) (.cons rfl .nil) ?_
          refine jn_seq (j_seq ?_)
          refine j_region ?_
          refine jg_adr _ rfl _ rfl rfl (op_move (.base rfl)) ?_
          refine jg_adr _ rfl _ rfl rfl (op_gtr (.base rfl) (.base rfl)) ?_
          refine jg_adr _ rfl _ rfl rfl (op_move (.base rfl)) ?_
          refine jg_gd _ _ _ _ _ _ rfl rfl rfl rfl rfl (fun hg => op_ofield fld26_2 (.base rfl)) ?_
          refine jg_gd _ _ _ _ _ _ rfl rfl rfl rfl rfl (fun hg => op_oload ty24 (.gd rfl hg) rfl rfl ln26_2) ?_
          refine jg_gd _ _ _ _ _ _ rfl rfl rfl rfl rfl (fun hg => op_move (.base rfl)) ?_
          refine jg_gd _ _ _ _ _ _ rfl rfl rfl rfl rfl (fun hg => op_index Try.underlying24 ty40 (.gd rfl hg) (.gd rfl hg) rfl (getD_some (z := (([], (0, ([], ([], [])))) : TScope)) (by first | omega | (simp; done) | (simp; omega) | (simp at hg; omega) | (simp at hg; simp; omega)))) ?_
          refine jg_gd _ _ _ _ _ _ rfl rfl rfl rfl rfl (fun hg => op_load ty40 (.gd rfl hg)) ?_
          refine jg_gd _ _ _ _ _ _ rfl rfl rfl rfl rfl (fun hg => op_call (smallS_ok _) (.cons (.gd rfl hg) .nil) rfl rfl) ?_
          refine jg_gd _ _ _ _ _ _ rfl rfl rfl rfl rfl (fun hg => op_not (.gd rfl hg)) ?_
          refine jg_adr _ rfl _ rfl rfl (op_pick_or (.base rfl) (.base rfl) rfl (by intro h; first | (rw [h]; rfl) | (rw [hg, h]; rfl) | (rw [h, hg]; rfl) | simp_all)) ?_
          refine jg_nil ?_
          refine jn_keep [1, 4, 8, 126] [1] (.cons rfl (.cons rfl (.cons rfl (.cons rfl .nil)))) (.cons rfl .nil) ?_
          refine jn_seq ?_
          refine j_cond rfl (fun h25 => ?_) (fun h25 => ?_)
          · have h25 : ¬ (sumS (l.2.2.take k) + (l.2.2[k]).2.2.2.2.length ≤ 60 ∧ SmS (l.2.2[k])) := by intro q; have := dB_t q.2; simp [List.getElem?_eq_getElem h22, this] at h25; omega
            refine j_seq ?_
            refine j_region ?_
            refine jg_adr _ rfl _ rfl rfl (op_assign (.base rfl)) ?_
            refine jg_nil ?_
            refine jn_keep [2] [] (.cons rfl .nil) .nil ?_
            refine jn_seq (j_ret (jr_blk (jr_seq (jr_loop (jr_blk (jr_seq ?_))))))
            exact jr_fin1 Try.results9 (res_tmp rfl) rfl (rb ((dB_f (fun q => h25 ⟨by have := sumS_le l.2.2 (k + 1); rw [hst] at this; have := q.2.2.2.2; omega, q.2.2.2.1 _ (List.getElem_mem h22)⟩)).symm))
          · have h25 : sumS (l.2.2.take k) + (l.2.2[k]).2.2.2.2.length ≤ 60 ∧ SmS (l.2.2[k]) := by simp [List.getElem?_eq_getElem h22] at h25; exact ⟨by omega, dB_iff.1 h25.2⟩
            refine j_skip (jn_blk (jn_seq ?_))
            refine j_region ?_
            refine jg_adr _ rfl _ rfl rfl (op_move (.base rfl)) ?_
            refine jg_adr _ rfl _ rfl rfl (op_add (.base rfl) (.base rfl) (w64 (by omega))) ?_
            refine jg_adr _ rfl _ rfl rfl (op_assign (.base rfl)) ?_
            refine jg_nil ?_
            refine jn_keep [1, 4, 8] [1] (.cons rfl (.cons rfl (.cons rfl .nil))) (.cons rfl .nil) ?_
            exact jn_loop (fun a w hi => ⟨k + 1, (by omega), ⟨by omega, all_succ h22 hp.1 h25.2, by rw [hst]; exact h25.1⟩, Sub.inv ⟨(by repeat (first | exact SubS_nil | refine SubS_cons rfl (by first | rfl | exact congrArg (fun z : Int => SV.raw (Value.int .i64 z)) (by rw [hst]; omega)) ?_)), (by repeat (first | exact SubH_nil | refine SubH_cons rfl (by first | rfl | (simp; done) | assumption) ?_))⟩ hi⟩)
        · simp at h22
          have e4 := all_end (by omega) hp.1
          have e5 := hp.2
          rw [List.take_of_length_le (by omega)] at e5
          refine j_exit (je_seq (je_loop (je_blk (jn_seq (j_seq ?_)))))
          refine j_region ?_
          refine jg_adr _ rfl _ rfl rfl (op_assign (.base rfl)) ?_
          refine jg_nil ?_
          refine jn_keep [2] [] (.cons rfl .nil) .nil ?_
          refine jn_seq (j_ret ?_)
          exact jr_fin1 Try.results9 (res_tmp rfl) rfl (rb ((dB_t (⟨h1, e1, ⟨e2, e3⟩, e4, e5⟩)).symm))


theorem rngL_len (l : TLaw) : (rngL l).length = sumT l.2.1 + sumS l.2.2 := by
  unfold rngL sumT sumS; rw [List.length_append, List.length_flatMap, List.length_flatMap]
  congr 2 <;> (apply List.map_congr_left; intro x _; simp [tvR, svR])
theorem sumT_mem {ts : List TTable} {t : TTable} (h : t ∈ ts) : t.2.2.2.length ≤ sumT ts := by
  obtain ⟨i, hi, rfl⟩ := List.getElem_of_mem h
  have h1 := sumT_le ts (i + 1); rw [sumT_succ hi] at h1; omega
theorem smL_lim {l : TLaw} (h : SmL l) : LLim l ∧ (rngL l).length ≤ 10000 ∧ l.2.1.length ≤ 100000 ∧ l.2.2.length ≤ 100000 := by
  obtain ⟨⟨a1, a2, a3⟩, b, ⟨c1, c2⟩, d, e⟩ := h
  refine ⟨⟨⟨by omega, fun x hx => ?_⟩, ⟨by omega, fun x hx => ?_⟩, by omega, fun x hx => ?_⟩, by rw [rngL_len]; omega, by omega, by omega⟩
  · have := (b x hx).2.1; omega
  · have := sumT_mem hx; omega
  · obtain ⟨⟨q1, q2, q3, q4⟩, _, _, q5⟩ := d x hx
    exact ⟨by omega, by omega, by omega, fun r hr => by have := (q5 r hr).2.2; omega⟩

end Go.Proofs.Ythfhekohlmboiaa
