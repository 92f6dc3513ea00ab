import Derived.Test.YtcdkmhmlpjnfeaaP12p
import Derived.Test.YtcdkmhmlpjnfeaaP12u
namespace Go.Proofs.Ytcdkmhmlpjnfeaa
open Go.Eng
set_option maxRecDepth 100000
set_option maxHeartbeats 4000000
set_option linter.unusedVariables false
set_option linter.unusedSimpArgs false


theorem res_nil {P : Program} {cx : Cx} {st : St} {α : Type} {rt : RT α} {t : Nat} (h : lookS st.slots t = some (.raw (.slice none 0 0))) : Res P cx st (.tmp t) (.tv (rSlice rt) []) := fun β a w hi => by
  obtain ⟨v, h1, h2⟩ := res_tmp h β a w hi
  have h2 : v = .slice none 0 0 := h2
  subst h2
  exact ⟨_, h1, nil_val⟩
theorem woK_succ {l : List Rg} {lo hi : Int} {k : Nat} (h : k < l.length) : woK (l.take (k + 1)) lo hi = woK (l.take k) lo hi ++ pieceK lo hi l[k] := by
  unfold woK; rw [← List.take_append_getElem h, List.flatMap_append]; simp
theorem woK_len2 (lo hi : Int) : ∀ l : List Rg, (woK l lo hi).length ≤ 2 * l.length
  | [] => by simp [woK]
  | x :: l => by
    have ih := woK_len2 lo hi l
    have := pieceK_len lo hi x
    unfold woK at *
    rw [List.flatMap_cons, List.length_append, List.length_cons]; omega
def stK (date lo hi : Int) (l : List TRow) (k : Nat) : List Rg := (l.take k).foldl (rStepK date) [(lo, hi)]
theorem stK_succ {date lo hi : Int} {l : List TRow} {k : Nat} (h : k < l.length) : stK date lo hi l (k + 1) = rStepK date (stK date lo hi l k) l[k] := by
  unfold stK; rw [← List.take_append_getElem h, List.foldl_append]; rfl
theorem stK_len {date lo hi : Int} {l : List TRow} {k : Nat} (hlt : lo < hi) : (stK date lo hi l k).length ≤ k + 1 := by
  have := (rStepK_ok (date := date) (l.take k) [(lo, hi)] ⟨hlt, by simp, trivial⟩).2.1
  unfold stK
  have h2 : (l.take k).length ≤ k := by simp; omega
  simp only [List.length_singleton] at this; omega
/-- the rows, each divided at a key -/
def dvR (at_ : Int) (x : TRow) : List TRow := if x.2.1 < at_ ∧ at_ < x.2.2.1 then [(x.1, x.2.1, at_, x.2.2.2), (x.1, at_, x.2.2.1, x.2.2.2)] else [x]
def splitL (at_ : Int) (l : List TRow) : List TRow := l.flatMap (dvR at_)
theorem splitL_len (at_ : Int) : ∀ l : List TRow, (splitL at_ l).length ≤ 2 * l.length
  | [] => by simp [splitL]
  | x :: l => by
    have ih := splitL_len at_ l
    unfold splitL at *
    rw [List.flatMap_cons, List.length_append, List.length_cons]
    have : (dvR at_ x).length ≤ 2 := by unfold dvR; split <;> simp
    omega
theorem spl_succ {at_ : Int} {l : List TRow} {k : Nat} (h : k < l.length) : splitL at_ (l.take (k + 1)) = splitL at_ (l.take k) ++ dvR at_ l[k] := by
  unfold splitL; rw [← List.take_append_getElem h, List.flatMap_append]; simp

theorem few_ok (t : TTable) (m : Int) : Ct Try.prog 10 [.tv rTable t, .raw (.int .i64 m)] (.raw (.bool (decide ((t.2.2.2.length : Int) ≤ m)))) := by
  refine ct_intro Try.func10 rfl rfl Try.ntmps10 rfl rfl ?_
  intro w0 ok0
  refine j_seq ?_
  refine j_region ?_
  refine jg_os _ rfl (op_box (.tv (.base rfl)) rfl rfl rfl) ?_
  refine jg_adr _ rfl _ rfl rfl (op_assign (.base rfl)) ?_
  refine jg_nil ?_
  refine jn_keep [1, 2] [2] (.cons rfl (.cons rfl .nil)) (.cons rfl .nil) ?_
  refine jn_seq (j_seq ?_)
  refine j_region ?_
  refine jg_adr _ rfl _ rfl rfl (op_ofield fld26_3 (.base rfl)) ?_
  refine jg_adr _ rfl _ rfl rfl (op_oload ty24 (.base rfl) rfl rfl ln26_3) ?_
  refine jg_adr _ rfl _ rfl rfl (op_len Try.underlying24 (.base rfl)) ?_
  refine jg_adr _ rfl _ rfl rfl (op_move (.base rfl)) ?_
  refine jg_adr _ rfl _ rfl rfl (op_leq (.base rfl) (.base rfl)) ?_
  refine jg_adr _ rfl _ rfl rfl (op_assign (.base rfl)) ?_
  refine jg_nil ?_
  refine jn_keep [4] [] (.cons rfl .nil) .nil ?_
  refine jn_seq (j_ret ?_)
  exact jr_fin1 Try.results10 (res_tmp rfl) rfl rfl

theorem efew_ok (en : List TEnum) : Ct Try.prog 11 [.tv (rSlice rEnum) en] (.raw (.bool (decide ((en.length : Int) ≤ 20)))) := by
  refine ct_intro Try.func11 rfl rfl Try.ntmps11 rfl rfl ?_
  intro w0 ok0
  refine j_seq ?_
  refine j_region ?_
  refine jg_adr _ rfl _ rfl rfl (op_assign (.base rfl)) ?_
  refine jg_nil ?_
  refine jn_keep [0] [] (.cons rfl .nil) .nil ?_
  refine jn_seq (j_seq ?_)
  refine j_region ?_
  refine jg_adr _ rfl _ rfl rfl (op_move (.base rfl)) ?_
  refine jg_adr _ rfl _ rfl rfl (op_len Try.underlying27 (.base rfl)) ?_
  refine jg_adr _ rfl _ rfl rfl (op_leq (.base rfl) (.base rfl)) ?_
  refine jg_adr _ rfl _ rfl rfl (op_assign (.base rfl)) ?_
  refine jg_nil ?_
  refine jn_keep [2] [] (.cons rfl .nil) .nil ?_
  refine jn_seq (j_ret ?_)
  exact jr_fin1 Try.results11 (res_tmp rfl) rfl rfl

theorem same_keys (xs ys : List Rg) : Ct Try.prog 19 [.tv (rSlice rKeyRange) xs, .tv (rSlice rKeyRange) ys] (.raw (.bool (xs == ys))) := by
  refine ct_intro Try.func19 rfl rfl Try.ntmps19 rfl rfl ?_
  intro w0 ok0
  refine j_len 0 rfl (fun hl0 => ?_)
  refine j_seq ?_
  refine j_region ?_
  refine jg_adr _ rfl _ rfl rfl (op_assign (.base rfl)) ?_
  refine jg_nil ?_
  refine jn_keep [0, 1] [] (.cons rfl (.cons rfl .nil)) .nil ?_
  refine jn_seq (j_seq (j_seq ?_))
  refine j_region ?_
  refine jg_adr _ rfl _ rfl rfl (op_move (.base rfl)) ?_
  refine jg_adr _ rfl _ rfl rfl (op_len Try.underlying37 (.base rfl)) ?_
  refine jg_adr _ rfl _ rfl rfl (op_move (.base rfl)) ?_
  refine jg_adr _ rfl _ rfl rfl (op_len Try.underlying37 (.base rfl)) ?_
  refine jg_adr _ rfl _ rfl rfl (op_neq (.base rfl) (.base rfl)) ?_
  refine jg_nil ?_
  refine jn_keep [0, 1, 10] [] (.cons rfl (.cons rfl (.cons rfl .nil))) .nil ?_
  refine jn_seq ?_
  refine j_cond rfl (fun h1 => ?_) (fun h1 => ?_)
  · try simp at h1
    refine j_seq ?_
    refine j_region ?_
    refine jg_adr _ rfl _ rfl rfl (op_assign (.base rfl)) ?_
    refine jg_nil ?_
    refine jn_keep [4] [] (.cons rfl .nil) .nil ?_
    refine jn_seq (j_ret (jr_seq ?_))
    exact jr_fin1 Try.results19 (res_tmp rfl) rfl (rb (by rw [eq_comm, beq_eq_false_iff_ne]; rintro rfl; exact h1 rfl))
  · try simp at h1
    refine j_skip (jn_seq (j_seq (j_seq ?_)))
    refine j_region ?_
    refine jg_adr _ rfl _ rfl rfl (op_assign (.base rfl)) ?_
    refine jg_nil ?_
    refine jn_keep [0, 1, 5] [] (.cons rfl (.cons rfl (.cons rfl .nil))) .nil ?_
    refine jn_seq (j_block ?_)
    refine j_loopp (ι := Nat) (fun k => ⟨[(0, .tv (rSlice rKeyRange) xs), (1, .tv (rSlice rKeyRange) ys), (5, .raw (.int .i64 ((k : Nat))))], []⟩) (fun k => k ≤ xs.length ∧ xs.take k = ys.take k) (fun k => xs.length - k) 0 (by simp) (fun a w hi => (Sub.inv ⟨(by repeat (first | exact SubS_nil | refine SubS_cons rfl (by first | rfl | (simp; done) | assumption) ?_)), (by repeat (first | exact SubH_nil | refine SubH_cons rfl (by first | rfl | (simp; done) | assumption) ?_))⟩ hi)) ?_
    rintro k ⟨hk, hp⟩
    refine j_seq (j_seq ?_)
    refine j_region ?_
    refine jg_adr _ rfl _ rfl rfl (op_move (.base rfl)) ?_
    refine jg_adr _ rfl _ rfl rfl (op_move (.base rfl)) ?_
    refine jg_adr _ rfl _ rfl rfl (op_len Try.underlying37 (.base rfl)) ?_
    refine jg_adr _ rfl _ rfl rfl (op_lss (.base rfl) (.base rfl)) ?_
    refine jg_adr _ rfl _ rfl rfl (op_move (.base rfl)) ?_
    refine jg_gd _ _ _ _ _ _ rfl rfl rfl rfl rfl (fun hg => op_move (.base rfl)) ?_
    refine jg_gd _ _ _ _ _ _ rfl rfl rfl rfl rfl (fun hg => op_move (.base rfl)) ?_
    refine jg_gd _ _ _ _ _ _ rfl rfl rfl rfl rfl (fun hg => op_len Try.underlying37 (.gd rfl hg)) ?_
    refine jg_gd _ _ _ _ _ _ rfl rfl rfl rfl rfl (fun hg => op_lss (.gd rfl hg) (.gd rfl hg)) ?_
    refine jg_adr _ rfl _ rfl rfl (op_pick_and (.base rfl) (.base rfl) rfl (by intro h; first | (rw [h]; rfl) | (rw [hg, h]; rfl) | (rw [h, hg]; rfl) | simp_all)) ?_
    refine jg_nil ?_
    refine jn_keep [0, 1, 5, 20] [] (.cons rfl (.cons rfl (.cons rfl (.cons rfl .nil)))) .nil ?_
    refine jn_seq ?_
    refine j_cond rfl (fun h4 => ?_) (fun h4 => ?_)
    · try simp at h4
      refine j_skip (jn_seq (j_seq (j_block (j_seq ?_))))
      refine j_draw mo (by kernel_rfl) (
        AS.cons _ _ rfl (ga_adr rfl rfl rfl (op_move (.base rfl))) (
          AS.cons _ _ rfl (ga_adr rfl rfl rfl (op_move (.base rfl))) (
          AS.cons _ _ rfl (ga_adr rfl rfl rfl (op_index Try.underlying37 ty42 (.base rfl) (.base rfl) rfl (List.getElem?_eq_getElem (by first | omega | (simp; done) | (simp; omega) | (simp at hg; omega))))) (
          AS.cons _ _ rfl (ga_adr rfl rfl rfl (op_load ty42 (.base rfl))) (
          AS.cons _ _ rfl (ga_adr rfl rfl rfl (op_move (.base rfl))) (
          AS.cons _ _ rfl (ga_adr rfl rfl rfl (op_move (.base rfl))) (
          AS.cons _ _ rfl (ga_adr rfl rfl rfl (op_index Try.underlying37 ty42 (.base rfl) (.base rfl) rfl (List.getElem?_eq_getElem (by first | omega | (simp; done) | (simp; omega) | (simp at hg; omega))))) (
          AS.cons _ _ rfl (ga_adr rfl rfl rfl (op_load ty42 (.base rfl))) (
          AS.cons _ _ rfl (ga_adr rfl rfl rfl (op_sneq eq42 rfl rfl eg42 (.tv (.base rfl)) (.tv (.base rfl)))) (
          AS.nil)))))))))) ?_
      refine jn_keep [0, 1, 5, 31] [] (.cons rfl (.cons rfl (.cons rfl (.cons rfl .nil)))) .nil ?_
      refine jn_seq ?_
      refine j_cond rfl (fun h6 => ?_) (fun h6 => ?_)
      · try simp at h6
        refine j_seq ?_
        refine j_region ?_
        refine jg_adr _ rfl _ rfl rfl (op_assign (.base rfl)) ?_
        refine jg_nil ?_
        refine jn_keep [4] [] (.cons rfl .nil) .nil ?_
        refine jn_seq (j_ret (jr_blk (jr_seq (jr_loop (jr_blk (jr_seq ?_))))))
        exact jr_fin1 Try.results19 (res_tmp rfl) rfl (rb (by rw [eq_comm, beq_eq_false_iff_ne]; rintro rfl; simp at h6))
      · try simp at h6
        refine j_skip (jn_blk (jn_seq ?_))
        refine j_region ?_
        refine jg_adr _ rfl _ rfl rfl (op_move (.base rfl)) ?_
        refine jg_adr _ rfl _ rfl rfl (op_add (.base rfl) (.base rfl) (w64 (by omega))) ?_
        refine jg_adr _ rfl _ rfl rfl (op_assign (.base rfl)) ?_
        refine jg_nil ?_
        refine jn_keep [0, 1, 5] [] (.cons rfl (.cons rfl (.cons rfl .nil))) .nil ?_
        exact jn_loop (fun a w hi => ⟨k + 1, (by first | omega | (simp; omega)), (⟨by omega, by rw [List.take_succ_eq_append_getElem (by omega), List.take_succ_eq_append_getElem (by omega), hp]; (try simp at h6); rw [h6]⟩), (Sub.inv ⟨(by repeat (first | exact SubS_nil | refine SubS_cons rfl (by first | rfl | (simp; done) | assumption) ?_)), (by repeat (first | exact SubH_nil | refine SubH_cons rfl (by first | rfl | (simp; done) | assumption) ?_))⟩ hi)⟩)
    · try simp at h4
      refine j_exit (je_seq (je_loop (je_blk (jn_seq (j_seq ?_)))))
      refine j_region ?_
      refine jg_adr _ rfl _ rfl rfl (op_assign (.base rfl)) ?_
      refine jg_nil ?_
      refine jn_keep [4] [] (.cons rfl .nil) .nil ?_
      refine jn_seq (j_ret ?_)
      exact jr_fin1 Try.results19 (res_tmp rfl) rfl (rb (by have e : k = xs.length := (by omega); rw [eq_comm, beq_iff_eq, ← List.take_of_length_le (Nat.le_refl xs.length), ← e, hp, List.take_of_length_le (by omega)]))

theorem without_ok (l : List Rg) (lo hi : Int) (hlm : l.length ≤ 1000) : Ct Try.prog 47 [.tv (rSlice rKeyRange) l, .raw (.int .i64 lo), .raw (.int .i64 hi)] (.tv (rSlice rKeyRange) (woK l lo hi)) := by
  refine ct_intro Try.func47 rfl rfl Try.ntmps47 rfl rfl ?_
  intro w0 ok0
  refine j_len 0 rfl (fun hl0 => ?_)
  refine j_seq ?_
  refine j_region ?_
  refine jg_adr _ rfl _ rfl rfl (op_assign (.base rfl)) ?_
  refine jg_nil ?_
  refine jn_keep [0, 1, 2] [] (.cons rfl (.cons rfl (.cons rfl .nil))) .nil ?_
  refine jn_seq (j_seq ?_)
  refine j_region ?_
  refine jg_adr _ rfl _ rfl rfl (op_assign (.base rfl)) ?_
  refine jg_nil ?_
  refine jn_keep [0, 1, 2, 7] [] (.cons rfl (.cons rfl (.cons rfl (.cons rfl .nil)))) .nil ?_
  refine jn_seq (j_seq (j_seq ?_))
  refine j_region ?_
  refine jg_adr _ rfl _ rfl rfl (op_assign (.base rfl)) ?_
  refine jg_nil ?_
  refine jn_keep [0, 1, 2, 7, 8] [] (.cons rfl (.cons rfl (.cons rfl (.cons rfl (.cons rfl .nil))))) .nil ?_
  refine jn_seq (j_block ?_)
  refine j_vac 70 7 rKeyRange rfl rfl rfl ?_
  refine j_loopp (ι := Nat) (fun k => ⟨[(0, .tv (rSlice rKeyRange) l), (1, .raw (.int .i64 (lo))), (2, .raw (.int .i64 (hi))), (7, .own 70 rKeyRange.n 0 (woK (l.take k) lo hi).length), (8, .raw (.int .i64 ((k : Nat))))], [(70, ⟨rKeyRange, (woK (l.take k) lo hi)⟩)]⟩) (fun k => k ≤ l.length) (fun k => l.length - k) 0 (Nat.zero_le _) (fun a w hi => (Sub.inv ⟨(by repeat (first | exact SubS_nil | refine SubS_cons rfl (by first | rfl | (simp; done) | assumption) ?_)), (by repeat (first | exact SubH_nil | refine SubH_cons rfl (by first | rfl | (simp; done) | assumption) ?_))⟩ hi)) ?_
  rintro k hk
  have hwl := woK_len2 lo hi (l.take k)
  have htl : (l.take k).length ≤ l.length := by simp; omega
  refine j_seq (j_seq ?_)
  refine j_region ?_
  refine jg_adr _ rfl _ rfl rfl (op_move (.base rfl)) ?_
  refine jg_adr _ rfl _ rfl rfl (op_move (.base rfl)) ?_
  refine jg_adr _ rfl _ rfl rfl (op_len Try.underlying37 (.base rfl)) ?_
  refine jg_adr _ rfl _ rfl rfl (op_lss (.base rfl) (.base rfl)) ?_
  refine jg_nil ?_
  refine jn_keep [0, 1, 2, 7, 8, 12] [70] (.cons rfl (.cons rfl (.cons rfl (.cons rfl (.cons rfl (.cons rfl .nil)))))) (.cons rfl .nil) ?_
  refine jn_seq ?_
  refine j_cond rfl (fun h3 => ?_) (fun h3 => ?_)
  · simp at h3
    have hs := woK_succ (lo := lo) (hi := hi) h3
    unfold pieceK at hs
    refine j_skip (jn_seq (j_seq (j_block (j_seq (j_seq ?_)))))
    refine j_region ?_
    refine jg_adr _ rfl _ rfl rfl (op_move (.base rfl)) ?_
    refine jg_adr _ rfl _ rfl rfl (op_move (.base rfl)) ?_
    refine jg_adr _ rfl _ rfl rfl (op_geq (.base rfl) (.base rfl)) ?_
    refine jg_adr _ rfl _ rfl rfl (op_move (.base rfl)) ?_
    refine jg_gd _ _ _ _ _ _ rfl rfl rfl rfl rfl (fun hg => op_move (.base rfl)) ?_
    refine jg_gd _ _ _ _ _ _ rfl rfl rfl rfl rfl (fun hg => op_move (.base rfl)) ?_
    refine jg_gd _ _ _ _ _ _ rfl rfl rfl rfl rfl (fun hg => op_move (.base rfl)) ?_
    refine jg_gd _ _ _ _ _ _ rfl rfl rfl rfl rfl (fun hg => op_index Try.underlying37 ty42 (.gd rfl hg) (.gd rfl hg) rfl (getD_some (z := ((0, 0) : TKeyRange)) (by first | omega | (simp; done) | (simp; omega) | (simp at hg; omega) | (simp at hg; simp; omega)))) ?_
    refine jg_gd _ _ _ _ _ _ rfl rfl rfl rfl rfl (fun hg => op_field fld42_0 ln42_0 (.gd rfl hg)) ?_
    refine jg_gd _ _ _ _ _ _ rfl rfl rfl rfl rfl (fun hg => op_load ty3 (.gd rfl hg)) ?_
    refine jg_gd _ _ _ _ _ _ rfl rfl rfl rfl rfl (fun hg => op_leq (.gd rfl hg) (.gd rfl hg)) ?_
    refine jg_adr _ rfl _ rfl rfl (op_pick_or (.base rfl) (.base rfl) rfl (by intro h; first | (rw [h]; rfl) | (rw [hg, h]; rfl) | (rw [h, hg]; rfl) | simp_all)) ?_
    refine jg_adr _ rfl _ rfl rfl (op_move (.base rfl)) ?_
    refine jg_gd _ _ _ _ _ _ rfl rfl rfl rfl rfl (fun hg => op_move (.base rfl)) ?_
    refine jg_gd _ _ _ _ _ _ rfl rfl rfl rfl rfl (fun hg => op_move (.base rfl)) ?_
    refine jg_gd _ _ _ _ _ _ rfl rfl rfl rfl rfl (fun hg => op_index Try.underlying37 ty42 (.gd rfl hg) (.gd rfl hg) rfl (getD_some (z := ((0, 0) : TKeyRange)) (by first | omega | (simp; done) | (simp; omega) | (simp at hg; omega) | (simp at hg; simp; omega)))) ?_
    refine jg_gd _ _ _ _ _ _ rfl rfl rfl rfl rfl (fun hg => op_field fld42_1 ln42_1 (.gd rfl hg)) ?_
    refine jg_gd _ _ _ _ _ _ rfl rfl rfl rfl rfl (fun hg => op_load ty3 (.gd rfl hg)) ?_
    refine jg_gd _ _ _ _ _ _ rfl rfl rfl rfl rfl (fun hg => op_move (.base rfl)) ?_
    refine jg_gd _ _ _ _ _ _ rfl rfl rfl rfl rfl (fun hg => op_leq (.gd rfl hg) (.gd rfl hg)) ?_
    refine jg_adr _ rfl _ rfl rfl (op_pick_or (.base rfl) (.base rfl) rfl (by intro h; first | (rw [h]; rfl) | (rw [hg, h]; rfl) | (rw [h, hg]; rfl) | simp_all)) ?_
    refine jg_nil ?_
    refine jn_keep [0, 1, 2, 7, 8, 35] [70] (.cons rfl (.cons rfl (.cons rfl (.cons rfl (.cons rfl (.cons rfl .nil)))))) (.cons rfl .nil) ?_
    refine jn_seq ?_
    refine j_cond rfl (fun h5 => ?_) (fun h5 => ?_)
    · have k5 : lo ≥ hi ∨ hi ≤ l[k].1 ∨ l[k].2 ≤ lo := by simp [List.getElem?_eq_getElem h3] at h5; omega
      rw [if_pos k5] at hs
      refine j_seq ?_
      refine j_region ?_
      refine jg_adr _ rfl _ rfl rfl (op_move (.base rfl)) ?_
      refine jg_adr _ rfl _ rfl rfl (op_move (.base rfl)) ?_
      refine jg_adr _ rfl _ rfl rfl (op_move (.base rfl)) ?_
      refine jg_adr _ rfl _ rfl rfl (op_index Try.underlying37 ty42 (.base rfl) (.base rfl) rfl (List.getElem?_eq_getElem (by first | omega | (simp; done) | (simp; omega) | (simp at hg; omega)))) ?_
      refine jg_adr _ rfl _ rfl rfl (op_load ty42 (.base rfl)) ?_
      refine jg_adr _ rfl _ rfl rfl (op_bslice (rt := rKeyRange) Try.underlying37 ty42 z42 rfl (.cons (.tv (.base rfl)) .nil) rfl rfl) ?_
      refine jg_os _ rfl (op_append [0, 1, 2, 8] Try.underlying37 ty42 z42 rfl by42 (.base rfl) rfl (by (try simp); try omega) (.tv (.base rfl)) (by unfold maxLen; (try simp); try omega) (by (try simp); try omega) rfl (.cons rfl (.cons rfl (.cons rfl (.cons rfl .nil)))) rfl) ?_
      refine jg_adr _ rfl _ rfl rfl (op_assign (.base rfl)) ?_
      refine jg_nil ?_
      refine jn_keep [0, 1, 2, 7, 8] [70] (.cons rfl (.cons rfl (.cons rfl (.cons rfl (.cons rfl .nil))))) (.cons rfl .nil) ?_
      refine jn_seq (j_exit (je_seq (je_blk (jn_seq ?_))))
      refine j_region ?_
      refine jg_adr _ rfl _ rfl rfl (op_move (.base rfl)) ?_
      refine jg_adr _ rfl _ rfl rfl (op_add (.base rfl) (.base rfl) (w64 (by omega))) ?_
      refine jg_adr _ rfl _ rfl rfl (op_assign (.base rfl)) ?_
      refine jg_nil ?_
      refine jn_keep [0, 1, 2, 7, 8] [70] (.cons rfl (.cons rfl (.cons rfl (.cons rfl (.cons rfl .nil))))) (.cons rfl .nil) ?_
      exact jn_loop (fun a w hi => ⟨k + 1, (by omega), (by omega), Sub.inv ⟨(by repeat (first | exact SubS_nil | refine SubS_cons rfl (by first | rfl | exact congrArg (SV.own 70 rKeyRange.n 0) (by rw [hs]; try simp; try omega)) ?_)), (by repeat (first | exact SubH_nil | refine SubH_cons rfl (by first | rfl | (refine congrArg (HB.mk rKeyRange) ?_; rw [hs]; try (simp only [List.drop_zero, List.take_of_length_le (Nat.le_refl _)]); first | done | rfl | (simp; done) | (rw [List.take_of_length_le (by simp)]; simp; done))) ?_))⟩ hi⟩)
    · have k5 : ¬ (lo ≥ hi ∨ hi ≤ l[k].1 ∨ l[k].2 ≤ lo) := by simp [List.getElem?_eq_getElem h3] at h5; omega
      rw [if_neg k5] at hs
      refine j_skip (jn_seq (j_seq (j_seq ?_)))
      refine j_region ?_
      refine jg_adr _ rfl _ rfl rfl (op_move (.base rfl)) ?_
      refine jg_adr _ rfl _ rfl rfl (op_move (.base rfl)) ?_
      refine jg_adr _ rfl _ rfl rfl (op_index Try.underlying37 ty42 (.base rfl) (.base rfl) rfl (List.getElem?_eq_getElem (by first | omega | (simp; done) | (simp; omega) | (simp at hg; omega)))) ?_
      refine jg_adr _ rfl _ rfl rfl (op_field fld42_0 ln42_0 (.base rfl)) ?_
      refine jg_adr _ rfl _ rfl rfl (op_load ty3 (.base rfl)) ?_
      refine jg_adr _ rfl _ rfl rfl (op_move (.base rfl)) ?_
      refine jg_adr _ rfl _ rfl rfl (op_lss (.base rfl) (.base rfl)) ?_
      refine jg_nil ?_
      refine jn_keep [0, 1, 2, 7, 8, 49] [70] (.cons rfl (.cons rfl (.cons rfl (.cons rfl (.cons rfl (.cons rfl .nil)))))) (.cons rfl .nil) ?_
      refine jn_seq ?_
      refine j_cond rfl (fun h7 => ?_) (fun h7 => ?_)
      · have k7 := of_decide_eq_true h7
        rw [if_pos k7] at hs
        refine j_region ?_
        refine jg_adr _ rfl _ rfl rfl (op_move (.base rfl)) ?_
        refine jg_adr _ rfl _ rfl rfl (op_move (.base rfl)) ?_
        refine jg_adr _ rfl _ rfl rfl (op_move (.base rfl)) ?_
        refine jg_adr _ rfl _ rfl rfl (op_index Try.underlying37 ty42 (.base rfl) (.base rfl) rfl (List.getElem?_eq_getElem (by first | omega | (simp; done) | (simp; omega) | (simp at hg; omega)))) ?_
        refine jg_adr _ rfl _ rfl rfl (op_field fld42_0 ln42_0 (.base rfl)) ?_
        refine jg_adr _ rfl _ rfl rfl (op_load ty3 (.base rfl)) ?_
        refine jg_adr _ rfl _ rfl rfl (op_move (.base rfl)) ?_
        refine jg_adr _ rfl _ rfl rfl (op_build z42 rfl pl42 (.cons (rt' := (rInt .i64)) rfl ln42_0 (.raw (.base rfl) rfl) (.cons (rt' := (rInt .i64)) rfl ln42_1 (.raw (.base rfl) rfl) .nil))) ?_
        refine jg_adr _ rfl _ rfl rfl (op_bslice (rt := rKeyRange) Try.underlying37 ty42 z42 rfl (.cons (.tv (.base rfl)) .nil) rfl rfl) ?_
        refine jg_os _ rfl (op_append [0, 1, 2, 8] Try.underlying37 ty42 z42 rfl by42 (.base rfl) rfl (by (try simp); try omega) (.tv (.base rfl)) (by unfold maxLen; (try simp); try omega) (by (try simp); try omega) rfl (.cons rfl (.cons rfl (.cons rfl (.cons rfl .nil)))) rfl) ?_
        refine jg_adr _ rfl _ rfl rfl (op_assign (.base rfl)) ?_
        refine jg_nil ?_
        refine jn_keep [0, 1, 2, 7, 8] [70] (.cons rfl (.cons rfl (.cons rfl (.cons rfl (.cons rfl .nil))))) (.cons rfl .nil) ?_
        refine jn_seq (j_seq ?_)
        refine j_region ?_
        refine jg_adr _ rfl _ rfl rfl (op_move (.base rfl)) ?_
        refine jg_adr _ rfl _ rfl rfl (op_move (.base rfl)) ?_
        refine jg_adr _ rfl _ rfl rfl (op_move (.base rfl)) ?_
        refine jg_adr _ rfl _ rfl rfl (op_index Try.underlying37 ty42 (.base rfl) (.base rfl) rfl (List.getElem?_eq_getElem (by first | omega | (simp; done) | (simp; omega) | (simp at hg; omega)))) ?_
        refine jg_adr _ rfl _ rfl rfl (op_field fld42_1 ln42_1 (.base rfl)) ?_
        refine jg_adr _ rfl _ rfl rfl (op_load ty3 (.base rfl)) ?_
        refine jg_adr _ rfl _ rfl rfl (op_lss (.base rfl) (.base rfl)) ?_
        refine jg_nil ?_
        refine jn_keep [0, 1, 2, 7, 8, 66] [70] (.cons rfl (.cons rfl (.cons rfl (.cons rfl (.cons rfl (.cons rfl .nil)))))) (.cons rfl .nil) ?_
        refine jn_seq ?_
        refine j_cond rfl (fun h9 => ?_) (fun h9 => ?_)
        · have k9 := of_decide_eq_true h9
          rw [if_pos k9] at hs
          refine j_region ?_
          refine jg_adr _ rfl _ rfl rfl (op_move (.base rfl)) ?_
          refine jg_adr _ rfl _ rfl rfl (op_move (.base rfl)) ?_
          refine jg_adr _ rfl _ rfl rfl (op_move (.base rfl)) ?_
          refine jg_adr _ rfl _ rfl rfl (op_move (.base rfl)) ?_
          refine jg_adr _ rfl _ rfl rfl (op_index Try.underlying37 ty42 (.base rfl) (.base rfl) rfl (List.getElem?_eq_getElem (by first | omega | (simp; done) | (simp; omega) | (simp at hg; omega)))) ?_
          refine jg_adr _ rfl _ rfl rfl (op_field fld42_1 ln42_1 (.base rfl)) ?_
          refine jg_adr _ rfl _ rfl rfl (op_load ty3 (.base rfl)) ?_
          refine jg_adr _ rfl _ rfl rfl (op_build z42 rfl pl42 (.cons (rt' := (rInt .i64)) rfl ln42_0 (.raw (.base rfl) rfl) (.cons (rt' := (rInt .i64)) rfl ln42_1 (.raw (.base rfl) rfl) .nil))) ?_
          refine jg_adr _ rfl _ rfl rfl (op_bslice (rt := rKeyRange) Try.underlying37 ty42 z42 rfl (.cons (.tv (.base rfl)) .nil) rfl rfl) ?_
          refine jg_os _ rfl (op_append [0, 1, 2, 8] Try.underlying37 ty42 z42 rfl by42 (.base rfl) rfl (by (try simp); try omega) (.tv (.base rfl)) (by unfold maxLen; (try simp); try omega) (by (try simp); try omega) rfl (.cons rfl (.cons rfl (.cons rfl (.cons rfl .nil)))) rfl) ?_
          refine jg_adr _ rfl _ rfl rfl (op_assign (.base rfl)) ?_
          refine jg_nil ?_
          refine jn_keep [0, 1, 2, 7, 8] [70] (.cons rfl (.cons rfl (.cons rfl (.cons rfl (.cons rfl .nil))))) (.cons rfl .nil) ?_
          refine jn_blk (jn_seq ?_)
          refine j_region ?_
          refine jg_adr _ rfl _ rfl rfl (op_move (.base rfl)) ?_
          refine jg_adr _ rfl _ rfl rfl (op_add (.base rfl) (.base rfl) (w64 (by omega))) ?_
          refine jg_adr _ rfl _ rfl rfl (op_assign (.base rfl)) ?_
          refine jg_nil ?_
          refine jn_keep [0, 1, 2, 7, 8] [70] (.cons rfl (.cons rfl (.cons rfl (.cons rfl (.cons rfl .nil))))) (.cons rfl .nil) ?_
          exact jn_loop (fun a w hi => ⟨k + 1, (by omega), (by omega), Sub.inv ⟨(by repeat (first | exact SubS_nil | refine SubS_cons rfl (by first | rfl | exact congrArg (SV.own 70 rKeyRange.n 0) (by rw [hs]; try simp; try omega)) ?_)), (by repeat (first | exact SubH_nil | refine SubH_cons rfl (by first | rfl | (refine congrArg (HB.mk rKeyRange) ?_; rw [hs]; try (simp only [List.drop_zero, List.take_of_length_le (Nat.le_refl _)]); first | done | rfl | (simp; done) | (rw [List.take_of_length_le (by simp)]; simp; done))) ?_))⟩ hi⟩)
        · have k9 := of_decide_eq_false h9
          rw [if_neg k9] at hs
          try rw [List.append_nil] at hs
          refine j_skip (jn_blk (jn_seq ?_))
          refine j_region ?_
          refine jg_adr _ rfl _ rfl rfl (op_move (.base rfl)) ?_
          refine jg_adr _ rfl _ rfl rfl (op_add (.base rfl) (.base rfl) (w64 (by omega))) ?_
          refine jg_adr _ rfl _ rfl rfl (op_assign (.base rfl)) ?_
          refine jg_nil ?_
          refine jn_keep [0, 1, 2, 7, 8] [70] (.cons rfl (.cons rfl (.cons rfl (.cons rfl (.cons rfl .nil))))) (.cons rfl .nil) ?_
          exact jn_loop (fun a w hi => ⟨k + 1, (by omega), (by omega), Sub.inv ⟨(by repeat (first | exact SubS_nil | refine SubS_cons rfl (by first | rfl | exact congrArg (SV.own 70 rKeyRange.n 0) (by rw [hs]; try simp; try omega)) ?_)), (by repeat (first | exact SubH_nil | refine SubH_cons rfl (by first | rfl | (refine congrArg (HB.mk rKeyRange) ?_; rw [hs]; try (simp only [List.drop_zero, List.take_of_length_le (Nat.le_refl _)]); first | done | rfl | (simp; done) | (rw [List.take_of_length_le (by simp)]; simp; done))) ?_))⟩ hi⟩)
      · have k7 := of_decide_eq_false h7
        rw [if_neg k7, List.nil_append] at hs
        refine j_skip (jn_seq (j_seq ?_))
        refine j_region ?_
        refine jg_adr _ rfl _ rfl rfl (op_move (.base rfl)) ?_
        refine jg_adr _ rfl _ rfl rfl (op_move (.base rfl)) ?_
        refine jg_adr _ rfl _ rfl rfl (op_move (.base rfl)) ?_
        refine jg_adr _ rfl _ rfl rfl (op_index Try.underlying37 ty42 (.base rfl) (.base rfl) rfl (List.getElem?_eq_getElem (by first | omega | (simp; done) | (simp; omega) | (simp at hg; omega)))) ?_
        refine jg_adr _ rfl _ rfl rfl (op_field fld42_1 ln42_1 (.base rfl)) ?_
        refine jg_adr _ rfl _ rfl rfl (op_load ty3 (.base rfl)) ?_
        refine jg_adr _ rfl _ rfl rfl (op_lss (.base rfl) (.base rfl)) ?_
        refine jg_nil ?_
        refine jn_keep [0, 1, 2, 7, 8, 66] [70] (.cons rfl (.cons rfl (.cons rfl (.cons rfl (.cons rfl (.cons rfl .nil)))))) (.cons rfl .nil) ?_
        refine jn_seq ?_
        refine j_cond rfl (fun h9 => ?_) (fun h9 => ?_)
        · have k9 := of_decide_eq_true h9
          rw [if_pos k9] at hs
          refine j_region ?_
          refine jg_adr _ rfl _ rfl rfl (op_move (.base rfl)) ?_
          refine jg_adr _ rfl _ rfl rfl (op_move (.base rfl)) ?_
          refine jg_adr _ rfl _ rfl rfl (op_move (.base rfl)) ?_
          refine jg_adr _ rfl _ rfl rfl (op_move (.base rfl)) ?_
          refine jg_adr _ rfl _ rfl rfl (op_index Try.underlying37 ty42 (.base rfl) (.base rfl) rfl (List.getElem?_eq_getElem (by first | omega | (simp; done) | (simp; omega) | (simp at hg; omega)))) ?_
          refine jg_adr _ rfl _ rfl rfl (op_field fld42_1 ln42_1 (.base rfl)) ?_
          refine jg_adr _ rfl _ rfl rfl (op_load ty3 (.base rfl)) ?_
          refine jg_adr _ rfl _ rfl rfl (op_build z42 rfl pl42 (.cons (rt' := (rInt .i64)) rfl ln42_0 (.raw (.base rfl) rfl) (.cons (rt' := (rInt .i64)) rfl ln42_1 (.raw (.base rfl) rfl) .nil))) ?_
          refine jg_adr _ rfl _ rfl rfl (op_bslice (rt := rKeyRange) Try.underlying37 ty42 z42 rfl (.cons (.tv (.base rfl)) .nil) rfl rfl) ?_
          refine jg_os _ rfl (op_append [0, 1, 2, 8] Try.underlying37 ty42 z42 rfl by42 (.base rfl) rfl (by (try simp); try omega) (.tv (.base rfl)) (by unfold maxLen; (try simp); try omega) (by (try simp); try omega) rfl (.cons rfl (.cons rfl (.cons rfl (.cons rfl .nil)))) rfl) ?_
          refine jg_adr _ rfl _ rfl rfl (op_assign (.base rfl)) ?_
          refine jg_nil ?_
          refine jn_keep [0, 1, 2, 7, 8] [70] (.cons rfl (.cons rfl (.cons rfl (.cons rfl (.cons rfl .nil))))) (.cons rfl .nil) ?_
          refine jn_blk (jn_seq ?_)
          refine j_region ?_
          refine jg_adr _ rfl _ rfl rfl (op_move (.base rfl)) ?_
          refine jg_adr _ rfl _ rfl rfl (op_add (.base rfl) (.base rfl) (w64 (by omega))) ?_
          refine jg_adr _ rfl _ rfl rfl (op_assign (.base rfl)) ?_
          refine jg_nil ?_
          refine jn_keep [0, 1, 2, 7, 8] [70] (.cons rfl (.cons rfl (.cons rfl (.cons rfl (.cons rfl .nil))))) (.cons rfl .nil) ?_
          exact jn_loop (fun a w hi => ⟨k + 1, (by omega), (by omega), Sub.inv ⟨(by repeat (first | exact SubS_nil | refine SubS_cons rfl (by first | rfl | exact congrArg (SV.own 70 rKeyRange.n 0) (by rw [hs]; try simp; try omega)) ?_)), (by repeat (first | exact SubH_nil | refine SubH_cons rfl (by first | rfl | (refine congrArg (HB.mk rKeyRange) ?_; rw [hs]; try (simp only [List.drop_zero, List.take_of_length_le (Nat.le_refl _)]); first | done | rfl | (simp; done) | (rw [List.take_of_length_le (by simp)]; simp; done))) ?_))⟩ hi⟩)
        · have k9 := of_decide_eq_false h9
          rw [if_neg k9] at hs
          try rw [List.append_nil] at hs
          refine j_skip (jn_blk (jn_seq ?_))
          refine j_region ?_
          refine jg_adr _ rfl _ rfl rfl (op_move (.base rfl)) ?_
          refine jg_adr _ rfl _ rfl rfl (op_add (.base rfl) (.base rfl) (w64 (by omega))) ?_
          refine jg_adr _ rfl _ rfl rfl (op_assign (.base rfl)) ?_
          refine jg_nil ?_
          refine jn_keep [0, 1, 2, 7, 8] [70] (.cons rfl (.cons rfl (.cons rfl (.cons rfl (.cons rfl .nil))))) (.cons rfl .nil) ?_
          exact jn_loop (fun a w hi => ⟨k + 1, (by omega), (by omega), Sub.inv ⟨(by repeat (first | exact SubS_nil | refine SubS_cons rfl (by first | rfl | exact congrArg (SV.own 70 rKeyRange.n 0) (by rw [hs]; try simp; try omega)) ?_)), (by repeat (first | exact SubH_nil | refine SubH_cons rfl (by first | rfl | (refine congrArg (HB.mk rKeyRange) ?_; rw [hs]; try (simp only [List.drop_zero, List.take_of_length_le (Nat.le_refl _)]); first | done | rfl | (simp; done) | (rw [List.take_of_length_le (by simp)]; simp; done))) ?_))⟩ hi⟩)
  · simp at h3
    refine j_exit (je_seq (je_loop (je_blk (jn_seq (j_seq ?_)))))
    have hkk : k = l.length := by omega
    subst hkk
    refine j_region ?_
    refine jg_adr _ rfl _ rfl rfl (op_move (.base rfl)) ?_
    refine jg_adr _ rfl _ rfl rfl (op_assign (.base rfl)) ?_
    refine jg_nil ?_
    refine jn_keep [6] [70] (.cons rfl .nil) (.cons rfl .nil) ?_
    refine jn_seq (j_ret ?_)
    refine jr_seal (rt := rKeyRange) 70 6 (dropH 70 _) rfl rfl (by simp) (dropH_sub 70 _) (dropH_no 70 _) ?_
    exact jr_fin1 Try.results47 (res_tmp rfl) rfl (congrArg (SV.tv (rSlice rKeyRange)) (by rw [List.drop_zero, List.take_of_length_le (Nat.le_refl _), List.take_of_length_le (Nat.le_refl l.length)]))

theorem runc_ok (t : TTable) (date lo hi : Int) (hl : t.2.2.2.length ≤ 100) : Ct Try.prog 20 [.tv rTable t, .raw (.int .i64 date), .raw (.int .i64 lo), .raw (.int .i64 hi)] (.tv (rSlice rKeyRange) (uncR date lo hi t.2.2.2)) := by
  refine ct_intro Try.func20 rfl rfl Try.ntmps20 rfl rfl ?_
  intro w0 ok0
  refine j_seq ?_
  refine j_region ?_
  refine jg_os _ rfl (op_box (.tv (.base rfl)) rfl rfl rfl) ?_
  refine jg_adr _ rfl _ rfl rfl (op_assign (.base rfl)) ?_
  refine jg_nil ?_
  refine jn_keep [1, 2, 3, 4] [4] (.cons rfl (.cons rfl (.cons rfl (.cons rfl .nil)))) (.cons rfl .nil) ?_
  refine jn_seq (j_seq (j_seq ?_))
  refine j_region ?_
  refine jg_adr _ rfl _ rfl rfl (op_move (.base rfl)) ?_
  refine jg_adr _ rfl _ rfl rfl (op_move (.base rfl)) ?_
  refine jg_adr _ rfl _ rfl rfl (op_geq (.base rfl) (.base rfl)) ?_
  refine jg_nil ?_
  refine jn_keep [1, 2, 3, 4, 13] [4] (.cons rfl (.cons rfl (.cons rfl (.cons rfl (.cons rfl .nil))))) (.cons rfl .nil) ?_
  refine jn_seq ?_
  refine j_cond rfl (fun h1 => ?_) (fun h1 => ?_)
  · have h1 := of_decide_eq_true h1
    refine j_seq ?_
    refine j_region ?_
    refine jg_adr _ rfl _ rfl rfl (op_assign (.base rfl)) ?_
    refine jg_nil ?_
    refine jn_keep [8] [] (.cons rfl .nil) .nil ?_
    refine jn_seq (j_ret (jr_seq ?_))
    exact jr_fin1 Try.results20 (res_nil rfl) rfl (congrArg (SV.tv (rSlice rKeyRange)) (by unfold uncR; rw [if_pos h1]))
  · have h1 := of_decide_eq_false h1
    refine j_skip (jn_seq (j_seq ?_))
    refine j_region ?_
    refine jg_adr _ rfl _ rfl rfl (op_move (.base rfl)) ?_
    refine jg_adr _ rfl _ rfl rfl (op_move (.base rfl)) ?_
    refine jg_adr _ rfl _ rfl rfl (op_build z42 rfl pl42 (.cons (rt' := (rInt .i64)) rfl ln42_0 (.raw (.base rfl) rfl) (.cons (rt' := (rInt .i64)) rfl ln42_1 (.raw (.base rfl) rfl) .nil))) ?_
    refine jg_adr _ rfl _ rfl rfl (op_bslice (rt := rKeyRange) Try.underlying37 ty42 z42 rfl (.cons (.tv (.base rfl)) .nil) rfl rfl) ?_
    refine jg_adr _ rfl _ rfl rfl (op_assign (.base rfl)) ?_
    refine jg_nil ?_
    refine jn_keep [1, 4, 9] [4] (.cons rfl (.cons rfl (.cons rfl .nil))) (.cons rfl .nil) ?_
    refine jn_seq (j_seq (j_seq ?_))
    refine j_region ?_
    refine jg_adr _ rfl _ rfl rfl (op_assign (.base rfl)) ?_
    refine jg_nil ?_
    refine jn_keep [1, 4, 9, 10] [4] (.cons rfl (.cons rfl (.cons rfl (.cons rfl .nil)))) (.cons rfl .nil) ?_
    refine jn_seq (j_block ?_)
    refine j_loopp (ι := Nat) (fun k => ⟨[(1, .raw (.int .i64 (date))), (4, .optr 4 rTable.n 0 0), (9, .tv (rSlice rKeyRange) (stK date lo hi t.2.2.2 k)), (10, .raw (.int .i64 ((k : Nat))))], [(4, ⟨rTable, [t]⟩)]⟩) (fun k => k ≤ t.2.2.2.length) (fun k => t.2.2.2.length - k) 0 (Nat.zero_le _) (fun a w hi => (Sub.inv ⟨(by repeat (first | exact SubS_nil | refine SubS_cons rfl (by first | rfl | (simp; done) | assumption) ?_)), (by repeat (first | exact SubH_nil | refine SubH_cons rfl (by first | rfl | (simp; done) | assumption) ?_))⟩ hi)) ?_
    rintro k hk
    have hsl := stK_len (date := date) (l := t.2.2.2) (k := k) (show lo < hi by omega)
    refine j_seq (j_seq ?_)
    refine j_region ?_
    refine jg_adr _ rfl _ rfl rfl (op_move (.base rfl)) ?_
    refine jg_adr _ rfl _ rfl rfl (op_ofield fld26_3 (.base rfl)) ?_
    refine jg_adr _ rfl _ rfl rfl (op_oload ty24 (.base rfl) rfl rfl ln26_3) ?_
    refine jg_adr _ rfl _ rfl rfl (op_len Try.underlying24 (.base rfl)) ?_
    refine jg_adr _ rfl _ rfl rfl (op_lss (.base rfl) (.base rfl)) ?_
    refine jg_nil ?_
    refine jn_keep [1, 4, 9, 10, 22] [4] (.cons rfl (.cons rfl (.cons rfl (.cons rfl (.cons rfl .nil))))) (.cons rfl .nil) ?_
    refine jn_seq ?_
    refine j_cond rfl (fun h5 => ?_) (fun h5 => ?_)
    · simp at h5
      have hs := stK_succ (date := date) (lo := lo) (hi := hi) h5
      unfold rStepK at hs
      refine j_skip (jn_seq (j_seq (j_block (j_seq ?_))))
      refine j_region ?_
      refine jg_adr _ rfl _ rfl rfl (op_ofield fld26_3 (.base rfl)) ?_
      refine jg_adr _ rfl _ rfl rfl (op_oload ty24 (.base rfl) rfl rfl ln26_3) ?_
      refine jg_adr _ rfl _ rfl rfl (op_move (.base rfl)) ?_
      refine jg_adr _ rfl _ rfl rfl (op_index Try.underlying24 ty50 (.base rfl) (.base rfl) rfl (List.getElem?_eq_getElem (by first | omega | (simp; done) | (simp; omega) | (simp at hg; omega)))) ?_
      refine jg_adr _ rfl _ rfl rfl (op_field fld50_0 ln50_0 (.base rfl)) ?_
      refine jg_adr _ rfl _ rfl rfl (op_load ty48 (.base rfl)) ?_
      refine jg_adr _ rfl _ rfl rfl (op_move (.base rfl)) ?_
      refine jg_adr _ rfl _ rfl rfl (op_call (drcont_ok _ _) (.cons (.base rfl) (.cons (.base rfl) .nil)) rfl rfl) ?_
      refine jg_nil ?_
      refine jn_keep [1, 4, 9, 10, 32] [4] (.cons rfl (.cons rfl (.cons rfl (.cons rfl (.cons rfl .nil))))) (.cons rfl .nil) ?_
      refine jn_seq ?_
      refine j_cond rfl (fun h7 => ?_) (fun h7 => ?_)
      · have h7 : contR t.2.2.2[k].1 date = true := h7
        rw [if_pos h7] at hs
        refine j_draw mo (by kernel_rfl) (
          AS.cons _ _ rfl (ga_adr rfl rfl rfl (op_move (.base rfl))) (
            AS.cons _ _ rfl (ga_adr rfl rfl rfl (op_ofield fld26_3 (.base rfl))) (
            AS.cons _ _ rfl (ga_adr rfl rfl rfl (op_oload ty24 (.base rfl) rfl rfl ln26_3)) (
            AS.cons _ _ rfl (ga_adr rfl rfl rfl (op_move (.base rfl))) (
            AS.cons _ _ rfl (ga_adr rfl rfl rfl (op_index Try.underlying24 ty50 (.base rfl) (.base rfl) rfl (List.getElem?_eq_getElem (by first | omega | (simp; done) | (simp; omega) | (simp at hg; omega))))) (
            AS.cons _ _ rfl (ga_adr rfl rfl rfl (op_field fld50_1 ln50_1 (.base rfl))) (
            AS.cons _ _ rfl (ga_adr rfl rfl rfl (op_load ty3 (.base rfl))) (
            AS.cons _ _ rfl (ga_adr rfl rfl rfl (op_ofield fld26_3 (.base rfl))) (
            AS.cons _ _ rfl (ga_adr rfl rfl rfl (op_oload ty24 (.base rfl) rfl rfl ln26_3)) (
            AS.cons _ _ rfl (ga_adr rfl rfl rfl (op_move (.base rfl))) (
            AS.cons _ _ rfl (ga_adr rfl rfl rfl (op_index Try.underlying24 ty50 (.base rfl) (.base rfl) rfl (List.getElem?_eq_getElem (by first | omega | (simp; done) | (simp; omega) | (simp at hg; omega))))) (
            AS.cons _ _ rfl (ga_adr rfl rfl rfl (op_field fld50_2 ln50_2 (.base rfl))) (
            AS.cons _ _ rfl (ga_adr rfl rfl rfl (op_load ty3 (.base rfl))) (
            AS.cons _ _ rfl (ga_adr rfl rfl rfl (op_call (without_ok _ _ _ (by omega)) (.cons (.base rfl) (.cons (.base rfl) (.cons (.base rfl) .nil))) rfl rfl)) (
            AS.cons _ _ rfl (ga_adr rfl rfl rfl (op_assign (.base rfl))) (
            AS.nil)))))))))))))))) ?_
        refine jn_keep [1, 4, 9, 10] [4] (.cons rfl (.cons rfl (.cons rfl (.cons rfl .nil)))) (.cons rfl .nil) ?_
        refine jn_blk (jn_seq ?_)
        refine j_region ?_
        refine jg_adr _ rfl _ rfl rfl (op_move (.base rfl)) ?_
        refine jg_adr _ rfl _ rfl rfl (op_add (.base rfl) (.base rfl) (w64 (by omega))) ?_
        refine jg_adr _ rfl _ rfl rfl (op_assign (.base rfl)) ?_
        refine jg_nil ?_
        refine jn_keep [1, 4, 9, 10] [4] (.cons rfl (.cons rfl (.cons rfl (.cons rfl .nil)))) (.cons rfl .nil) ?_
        exact jn_loop (fun a w hi => ⟨k + 1, (by omega), (by omega), Sub.inv ⟨(by repeat (first | exact SubS_nil | refine SubS_cons rfl (by first | rfl | (refine congrArg (SV.tv (rSlice rKeyRange)) ?_; first | (rw [hs]; done) | (exact hs.symm; done) | (exact hs; done))) ?_)), (by repeat (first | exact SubH_nil | refine SubH_cons rfl (by first | rfl | (simp; done) | assumption) ?_))⟩ hi⟩)
      · have h7 : contR t.2.2.2[k].1 date = false := h7
        rw [if_neg (by rw [h7]; simp)] at hs
        refine j_skip (jn_blk (jn_seq ?_))
        refine j_region ?_
        refine jg_adr _ rfl _ rfl rfl (op_move (.base rfl)) ?_
        refine jg_adr _ rfl _ rfl rfl (op_add (.base rfl) (.base rfl) (w64 (by omega))) ?_
        refine jg_adr _ rfl _ rfl rfl (op_assign (.base rfl)) ?_
        refine jg_nil ?_
        refine jn_keep [1, 4, 9, 10] [4] (.cons rfl (.cons rfl (.cons rfl (.cons rfl .nil)))) (.cons rfl .nil) ?_
        exact jn_loop (fun a w hi => ⟨k + 1, (by omega), (by omega), Sub.inv ⟨(by repeat (first | exact SubS_nil | refine SubS_cons rfl (by first | rfl | (refine congrArg (SV.tv (rSlice rKeyRange)) ?_; first | (rw [hs]; done) | (exact hs.symm; done) | (exact hs; done))) ?_)), (by repeat (first | exact SubH_nil | refine SubH_cons rfl (by first | rfl | (simp; done) | assumption) ?_))⟩ hi⟩)
    · simp at h5
      refine j_exit (je_seq (je_loop (je_blk (jn_seq (j_seq ?_)))))
      refine j_region ?_
      refine jg_adr _ rfl _ rfl rfl (op_move (.base rfl)) ?_
      refine jg_adr _ rfl _ rfl rfl (op_assign (.base rfl)) ?_
      refine jg_nil ?_
      refine jn_keep [8] [] (.cons rfl .nil) .nil ?_
      refine jn_seq (j_ret ?_)
      exact jr_fin1 Try.results20 (res_tmp rfl) rfl (congrArg (SV.tv (rSlice rKeyRange)) (by unfold uncR stK; rw [if_neg h1, List.take_of_length_le (by omega)]))

theorem split_ok (l : List TRow) (at_ : Int) (hlm : l.length ≤ 1000) : Ct Try.prog 24 [.tv (rSlice rRow) l, .raw (.int .i64 at_)] (.tv (rSlice rRow) (splitL at_ l)) := by
  refine ct_intro Try.func24 rfl rfl Try.ntmps24 rfl rfl ?_
  intro w0 ok0
  refine j_len 0 rfl (fun hl0 => ?_)
  refine j_seq ?_
  refine j_region ?_
  refine jg_adr _ rfl _ rfl rfl (op_assign (.base rfl)) ?_
  refine jg_nil ?_
  refine jn_keep [0, 1] [] (.cons rfl (.cons rfl .nil)) .nil ?_
  refine jn_seq (j_seq ?_)
  refine j_region ?_
  refine jg_adr _ rfl _ rfl rfl (op_assign (.base rfl)) ?_
  refine jg_nil ?_
  refine jn_keep [0, 1, 5] [] (.cons rfl (.cons rfl (.cons rfl .nil))) .nil ?_
  refine jn_seq (j_seq (j_seq ?_))
  refine j_region ?_
  refine jg_adr _ rfl _ rfl rfl (op_assign (.base rfl)) ?_
  refine jg_nil ?_
  refine jn_keep [0, 1, 5, 6] [] (.cons rfl (.cons rfl (.cons rfl (.cons rfl .nil)))) .nil ?_
  refine jn_seq (j_block ?_)
  refine j_vac 70 5 rRow rfl rfl rfl ?_
  refine j_loopp (ι := Nat) (fun k => ⟨[(0, .tv (rSlice rRow) l), (1, .raw (.int .i64 (at_))), (5, .own 70 rRow.n 0 (splitL at_ (l.take k)).length), (6, .raw (.int .i64 ((k : Nat))))], [(70, ⟨rRow, (splitL at_ (l.take k))⟩)]⟩) (fun k => k ≤ l.length) (fun k => l.length - k) 0 (Nat.zero_le _) (fun a w hi => (Sub.inv ⟨(by repeat (first | exact SubS_nil | refine SubS_cons rfl (by first | rfl | (simp; done) | assumption) ?_)), (by repeat (first | exact SubH_nil | refine SubH_cons rfl (by first | rfl | (simp; done) | assumption) ?_))⟩ hi)) ?_
  rintro k hk
  have hwl := splitL_len at_ (l.take k)
  have htl : (l.take k).length ≤ l.length := by simp; omega
  refine j_seq (j_seq ?_)
  refine j_region ?_
  refine jg_adr _ rfl _ rfl rfl (op_move (.base rfl)) ?_
  refine jg_adr _ rfl _ rfl rfl (op_move (.base rfl)) ?_
  refine jg_adr _ rfl _ rfl rfl (op_len Try.underlying24 (.base rfl)) ?_
  refine jg_adr _ rfl _ rfl rfl (op_lss (.base rfl) (.base rfl)) ?_
  refine jg_nil ?_
  refine jn_keep [0, 1, 5, 6, 12] [70] (.cons rfl (.cons rfl (.cons rfl (.cons rfl (.cons rfl .nil))))) (.cons rfl .nil) ?_
  refine jn_seq ?_
  refine j_cond rfl (fun h3 => ?_) (fun h3 => ?_)
  · simp at h3
    have hs := spl_succ (at_ := at_) h3
    unfold dvR at hs
    refine j_skip (jn_seq (j_seq (j_block (j_seq ?_))))
    refine j_region ?_
    refine jg_adr _ rfl _ rfl rfl (op_move (.base rfl)) ?_
    refine jg_adr _ rfl _ rfl rfl (op_move (.base rfl)) ?_
    refine jg_adr _ rfl _ rfl rfl (op_index Try.underlying24 ty50 (.base rfl) (.base rfl) rfl (List.getElem?_eq_getElem (by first | omega | (simp; done) | (simp; omega) | (simp at hg; omega)))) ?_
    refine jg_adr _ rfl _ rfl rfl (op_field fld50_1 ln50_1 (.base rfl)) ?_
    refine jg_adr _ rfl _ rfl rfl (op_load ty3 (.base rfl)) ?_
    refine jg_adr _ rfl _ rfl rfl (op_move (.base rfl)) ?_
    refine jg_adr _ rfl _ rfl rfl (op_lss (.base rfl) (.base rfl)) ?_
    refine jg_adr _ rfl _ rfl rfl (op_move (.base rfl)) ?_
    refine jg_gd _ _ _ _ _ _ rfl rfl rfl rfl rfl (fun hg => op_move (.base rfl)) ?_
    refine jg_gd _ _ _ _ _ _ rfl rfl rfl rfl rfl (fun hg => op_move (.base rfl)) ?_
    refine jg_gd _ _ _ _ _ _ rfl rfl rfl rfl rfl (fun hg => op_move (.base rfl)) ?_
    refine jg_gd _ _ _ _ _ _ rfl rfl rfl rfl rfl (fun hg => op_index Try.underlying24 ty50 (.gd rfl hg) (.gd rfl hg) rfl (getD_some (z := (((0, 0), (0, (0, 0))) : TRow)) (by first | omega | (simp; done) | (simp; omega) | (simp at hg; omega) | (simp at hg; simp; omega)))) ?_
    refine jg_gd _ _ _ _ _ _ rfl rfl rfl rfl rfl (fun hg => op_field fld50_2 ln50_2 (.gd rfl hg)) ?_
    refine jg_gd _ _ _ _ _ _ rfl rfl rfl rfl rfl (fun hg => op_load ty3 (.gd rfl hg)) ?_
    refine jg_gd _ _ _ _ _ _ rfl rfl rfl rfl rfl (fun hg => op_lss (.gd rfl hg) (.gd rfl hg)) ?_
    refine jg_adr _ rfl _ rfl rfl (op_pick_and (.base rfl) (.base rfl) rfl (by intro h; first | (rw [h]; rfl) | (rw [hg, h]; rfl) | (rw [h, hg]; rfl) | simp_all)) ?_
    refine jg_nil ?_
    refine jn_keep [0, 1, 5, 6, 30] [70] (.cons rfl (.cons rfl (.cons rfl (.cons rfl (.cons rfl .nil))))) (.cons rfl .nil) ?_
    refine jn_seq ?_
    refine j_cond rfl (fun h5 => ?_) (fun h5 => ?_)
    · have k5 : l[k].2.1 < at_ ∧ at_ < l[k].2.2.1 := by simp [List.getElem?_eq_getElem h3] at h5; omega
      rw [if_pos k5] at hs
      refine j_seq ?_
      refine j_drawE mo (by kernel_rfl) (
        AE.cons _ _ _ rfl (gh_ga [] (ga_adr rfl rfl rfl (op_move (.base rfl))) (by kernel_rfl)) (
        AE.cons _ _ _ rfl (gh_ga [] (ga_adr rfl rfl rfl (op_move (.base rfl))) (by kernel_rfl)) (
        AE.cons _ _ _ rfl (gh_ga [] (ga_adr rfl rfl rfl (op_index Try.underlying24 ty50 (.base rfl) (.base rfl) rfl (List.getElem?_eq_getElem (by first | omega | (simp; done) | (simp; omega) | (simp at hg; omega))))) (by kernel_rfl)) (
        AE.cons _ _ _ rfl (gh_ga [] (ga_adr rfl rfl rfl (op_load ty50 (.base rfl))) (by kernel_rfl)) (
        AE.cons _ _ _ rfl (gh_ga [] (ga_adr rfl rfl rfl (op_move (.base rfl))) (by kernel_rfl)) (
        AE.cons _ _ _ rfl (gh_ga [] (ga_adr rfl rfl rfl (op_move (.base rfl))) (by kernel_rfl)) (
        AE.cons _ _ _ rfl (gh_ga [] (ga_adr rfl rfl rfl (op_index Try.underlying24 ty50 (.base rfl) (.base rfl) rfl (List.getElem?_eq_getElem (by first | omega | (simp; done) | (simp; omega) | (simp at hg; omega))))) (by kernel_rfl)) (
        AE.cons _ _ _ rfl (gh_ga [] (ga_adr rfl rfl rfl (op_load ty50 (.base rfl))) (by kernel_rfl)) (
        AE.cons _ _ _ rfl (gh_alloc _ z50 rfl) (
        AE.cons _ _ _ rfl (gh_alloc _ z50 rfl) (
        AE.cons _ _ _ rfl (gh_store ty50 (.base rfl) rfl rfl (Lens.id _) (.tv (.base rfl))) (
        AE.cons _ _ _ rfl (gh_store ty50 (.base rfl) rfl rfl (Lens.id _) (.tv (.base rfl))) (
        AE.nil))))))))))))) (by kernel_rfl) ?_
      refine jn_keep [0, 1, 5, 6, 7, 8] [7, 8, 70] (.cons rfl (.cons rfl (.cons rfl (.cons rfl (.cons rfl (.cons rfl .nil)))))) (.cons rfl (.cons rfl (.cons rfl .nil))) ?_
      refine jn_seq (j_seq ?_)
      refine j_region ?_
      refine jg_adr _ rfl _ rfl rfl (op_move (.base rfl)) ?_
      refine jg_adr _ rfl _ rfl rfl (op_ofield fld50_2 (.base rfl)) ?_
      refine jg_os _ rfl (op_ostore ty3 (.base rfl) rfl rfl ln50_2 (.raw (.base rfl) rfl)) ?_
      refine jg_nil ?_
      refine jn_keep [0, 1, 5, 6, 7, 8] [7, 8, 70] (.cons rfl (.cons rfl (.cons rfl (.cons rfl (.cons rfl (.cons rfl .nil)))))) (.cons rfl (.cons rfl (.cons rfl .nil))) ?_
      refine jn_seq (j_seq ?_)
      refine j_region ?_
      refine jg_adr _ rfl _ rfl rfl (op_move (.base rfl)) ?_
      refine jg_adr _ rfl _ rfl rfl (op_ofield fld50_1 (.base rfl)) ?_
      refine jg_os _ rfl (op_ostore ty3 (.base rfl) rfl rfl ln50_1 (.raw (.base rfl) rfl)) ?_
      refine jg_nil ?_
      refine jn_keep [0, 1, 5, 6, 7, 8] [7, 8, 70] (.cons rfl (.cons rfl (.cons rfl (.cons rfl (.cons rfl (.cons rfl .nil)))))) (.cons rfl (.cons rfl (.cons rfl .nil))) ?_
      refine jn_seq ?_
      refine j_region ?_
      refine jg_adr _ rfl _ rfl rfl (op_move (.base rfl)) ?_
      refine jg_adr _ rfl _ rfl rfl (op_oload ty50 (.base rfl) rfl rfl (Lens.id _)) ?_
      refine jg_adr _ rfl _ rfl rfl (op_oload ty50 (.base rfl) rfl rfl (Lens.id _)) ?_
      refine jg_adr _ rfl _ rfl rfl (op_bslice (rt := rRow) Try.underlying24 ty50 z50 rfl (.cons (.tv (.base rfl)) (.cons (.tv (.base rfl)) .nil)) rfl rfl) ?_
      refine jg_os _ rfl (op_append [0, 1, 6] Try.underlying24 ty50 z50 rfl by50 (.base rfl) rfl (by (try simp); try omega) (.tv (.base rfl)) (by unfold maxLen; (try simp); try omega) (by (try simp); try omega) rfl (.cons rfl (.cons rfl (.cons rfl .nil))) rfl) ?_
      refine jg_adr _ rfl _ rfl rfl (op_assign (.base rfl)) ?_
      refine jg_nil ?_
      refine jn_keep [0, 1, 5, 6] [70] (.cons rfl (.cons rfl (.cons rfl (.cons rfl .nil)))) (.cons rfl .nil) ?_
      refine jn_blk (jn_seq ?_)
      refine j_region ?_
      refine jg_adr _ rfl _ rfl rfl (op_move (.base rfl)) ?_
      refine jg_adr _ rfl _ rfl rfl (op_add (.base rfl) (.base rfl) (w64 (by omega))) ?_
      refine jg_adr _ rfl _ rfl rfl (op_assign (.base rfl)) ?_
      refine jg_nil ?_
      refine jn_keep [0, 1, 5, 6] [70] (.cons rfl (.cons rfl (.cons rfl (.cons rfl .nil)))) (.cons rfl .nil) ?_
      exact jn_loop (fun a w hi => ⟨k + 1, (by omega), (by omega), Sub.inv ⟨(by repeat (first | exact SubS_nil | refine SubS_cons rfl (by first | rfl | exact congrArg (SV.own 70 rRow.n 0) (by rw [hs]; try simp; try omega)) ?_)), (by repeat (first | exact SubH_nil | refine SubH_cons rfl (by first | rfl | (refine congrArg (HB.mk rRow) ?_; rw [hs]; try (simp only [List.drop_zero, List.take_of_length_le (Nat.le_refl _)]); first | done | rfl | (simp; done) | (rw [List.take_of_length_le (by simp)]; simp; done))) ?_))⟩ hi⟩)
    · have k5 : ¬ (l[k].2.1 < at_ ∧ at_ < l[k].2.2.1) := by simp [List.getElem?_eq_getElem h3] at h5; omega
      rw [if_neg k5] at hs
      refine j_region ?_
      refine jg_adr _ rfl _ rfl rfl (op_move (.base rfl)) ?_
      refine jg_adr _ rfl _ rfl rfl (op_move (.base rfl)) ?_
      refine jg_adr _ rfl _ rfl rfl (op_move (.base rfl)) ?_
      refine jg_adr _ rfl _ rfl rfl (op_index Try.underlying24 ty50 (.base rfl) (.base rfl) rfl (List.getElem?_eq_getElem (by first | omega | (simp; done) | (simp; omega) | (simp at hg; omega)))) ?_
      refine jg_adr _ rfl _ rfl rfl (op_load ty50 (.base rfl)) ?_
      refine jg_adr _ rfl _ rfl rfl (op_bslice (rt := rRow) Try.underlying24 ty50 z50 rfl (.cons (.tv (.base rfl)) .nil) rfl rfl) ?_
      refine jg_os _ rfl (op_append [0, 1, 6] Try.underlying24 ty50 z50 rfl by50 (.base rfl) rfl (by (try simp); try omega) (.tv (.base rfl)) (by unfold maxLen; (try simp); try omega) (by (try simp); try omega) rfl (.cons rfl (.cons rfl (.cons rfl .nil))) rfl) ?_
      refine jg_adr _ rfl _ rfl rfl (op_assign (.base rfl)) ?_
      refine jg_nil ?_
      refine jn_keep [0, 1, 5, 6] [70] (.cons rfl (.cons rfl (.cons rfl (.cons rfl .nil)))) (.cons rfl .nil) ?_
      refine jn_blk (jn_seq ?_)
      refine j_region ?_
      refine jg_adr _ rfl _ rfl rfl (op_move (.base rfl)) ?_
      refine jg_adr _ rfl _ rfl rfl (op_add (.base rfl) (.base rfl) (w64 (by omega))) ?_
      refine jg_adr _ rfl _ rfl rfl (op_assign (.base rfl)) ?_
      refine jg_nil ?_
      refine jn_keep [0, 1, 5, 6] [70] (.cons rfl (.cons rfl (.cons rfl (.cons rfl .nil)))) (.cons rfl .nil) ?_
      exact jn_loop (fun a w hi => ⟨k + 1, (by omega), (by omega), Sub.inv ⟨(by repeat (first | exact SubS_nil | refine SubS_cons rfl (by first | rfl | exact congrArg (SV.own 70 rRow.n 0) (by rw [hs]; try simp; try omega)) ?_)), (by repeat (first | exact SubH_nil | refine SubH_cons rfl (by first | rfl | (refine congrArg (HB.mk rRow) ?_; rw [hs]; try (simp only [List.drop_zero, List.take_of_length_le (Nat.le_refl _)]); first | done | rfl | (simp; done) | (rw [List.take_of_length_le (by simp)]; simp; done))) ?_))⟩ hi⟩)
  · simp at h3
    refine j_exit (je_seq (je_loop (je_blk (jn_seq (j_seq ?_)))))
    have hkk : k = l.length := by omega
    subst hkk
    refine j_region ?_
    refine jg_adr _ rfl _ rfl rfl (op_move (.base rfl)) ?_
    refine jg_adr _ rfl _ rfl rfl (op_assign (.base rfl)) ?_
    refine jg_nil ?_
    refine jn_keep [4] [70] (.cons rfl .nil) (.cons rfl .nil) ?_
    refine jn_seq (j_ret ?_)
    refine jr_seal (rt := rRow) 70 4 (dropH 70 _) rfl rfl (by simp) (dropH_sub 70 _) (dropH_no 70 _) ?_
    exact jr_fin1 Try.results24 (res_tmp rfl) rfl (congrArg (SV.tv (rSlice rRow)) (by rw [List.drop_zero, List.take_of_length_le (Nat.le_refl _), List.take_of_length_le (Nat.le_refl l.length)]))

end Go.Proofs.Ytcdkmhmlpjnfeaa
