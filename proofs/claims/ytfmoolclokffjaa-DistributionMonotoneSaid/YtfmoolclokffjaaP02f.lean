import Derived.Test.YtfmoolclokffjaaP02e
namespace Go.Proofs.Ytfmoolclokffjaa
open Go.Eng
set_option maxRecDepth 100000
set_option maxHeartbeats 4000000
set_option linter.unusedVariables false
set_option linter.unusedSimpArgs false

open Go.Proofs (ltOf)
open Go.Sort (SWO)
theorem w64e {e v : Int} (h : e = v) (hb : -9223372036854775808 ≤ v ∧ v ≤ 9223372036854775807) : IntKind.i64.wrap e = v := by rw [h]; exact w64 hb
theorem iotaF_R (R : List Int) {n : Nat} (h : n = R.length) : iotaF n n = (List.finRange R.length).map (fun i => (i.val : Int)) := by subst h; exact iotaF_n _
theorem ordA_eq (R : List Int) (h : 0 < R.length) : (@pdqL (Fin R.length) ⟨⟨0, h⟩⟩ (ltOf fun i j => cmpA R i.val j.val) (Lib.bitLen (List.finRange R.length).length) (List.finRange R.length)).map (fun i => (i.val : Int)) = ordA R := by
  unfold ordA; rw [dif_pos h, List.length_finRange]
theorem ordA_len (R : List Int) : (ordA R).length = R.length := by
  unfold ordA
  split
  · rename_i h
    rw [List.length_map, (@pdqL_ok (Fin R.length) ⟨⟨0, h⟩⟩ _ (cmpA_swo R) _ _).2.2, List.length_finRange]
  · simp; omega
theorem ordA_mem {R : List Int} {x : Int} (hx : x ∈ ordA R) : 0 ≤ x ∧ x < R.length := by
  unfold ordA at hx
  split at hx
  · obtain ⟨i, _, rfl⟩ := List.mem_map.1 hx; have := i.isLt; omega
  · simp at hx
theorem ord_at {R : List Int} {k : Nat} (h : k < R.length) : (ordA R)[0 + k]? = some ((ordA R).getD k 0) := by
  rw [Nat.zero_add, List.getElem?_eq_getElem (by rw [ordA_len]; exact h), getD_at (by rw [ordA_len]; exact h)]
theorem ord_in {R : List Int} {k : Nat} (h : k < R.length) : 0 ≤ (ordA R).getD k 0 ∧ (ordA R).getD k 0 < R.length := by
  rw [getD_at (by rw [ordA_len]; exact h)]; exact ordA_mem (List.getElem_mem _)
theorem bump_len (l is : List Int) : (bump l is).length = l.length := by
  unfold bump
  induction is generalizing l with
  | nil => rfl
  | cons i is ih => rw [List.foldl_cons, ih]; simp
theorem bump_snoc (l is : List Int) (i : Int) : bump l (is ++ [i]) = (bump l is).set i.toNat ((bump l is).getD i.toNat 0 + 1) := by simp [bump]
theorem bump_at {l is : List Int} {j : Nat} (h : j < l.length) : (bump l is)[0 + j]? = some ((bump l is).getD j 0) := by
  rw [Nat.zero_add, List.getElem?_eq_getElem (by rw [bump_len]; exact h), getD_at (by rw [bump_len]; exact h)]
theorem bump_take {l R : List Int} {k : Nat} (h : k < R.length) : bump l ((ordA R).take (k + 1)) = (bump l ((ordA R).take k)).set (0 + ((ordA R).getD k 0).toNat) ((bump l ((ordA R).take k)).getD ((ordA R).getD k 0).toNat 0 + 1) := by
  rw [List.take_succ_eq_append_getElem (by rw [ordA_len]; exact h), bump_snoc, Nat.zero_add, show (ordA R).getD k 0 = (ordA R)[k]'(by rw [ordA_len]; exact h) from getD_at _]
theorem bump_bd {l is : List Int} {A : Int} (h : ∀ j, 0 ≤ l.getD j 0 ∧ l.getD j 0 ≤ A) : ∀ j, 0 ≤ (bump l is).getD j 0 ∧ (bump l is).getD j 0 ≤ A + is.length := by
  unfold bump
  induction is generalizing l A with
  | nil => intro j; have := h j; simpa using this
  | cons i is ih =>
    intro j
    rw [List.foldl_cons]
    have := ih (l := l.set i.toNat (l.getD i.toNat 0 + 1)) (A := A + 1) (fun q => by
      have h1 := h q; have h2 := h i.toNat
      simp only [List.getD_eq_getElem?_getD, List.getElem?_set] at *
      split
      · split
        · simp; omega
        · simp; omega
      · omega) j
    simp only [List.length_cons]; omega
def negF (k : Nat) (l : List Int) : List Int := (l.take k).map (fun x => -x) ++ l.drop k
theorem negF_len (k : Nat) (l : List Int) : (negF k l).length = l.length := by simp [negF]; omega
theorem negF_at {k : Nat} {l : List Int} (h : k < l.length) : (negF k l)[0 + k]? = some (l.getD k 0) := by
  unfold negF
  rw [Nat.zero_add, List.getElem?_append_right (by simp; omega), getD_at h]
  simp [show min k l.length = k by omega, h]
theorem negF_set {k : Nat} {l : List Int} (h : k < l.length) : (negF k l).set (0 + k) (-(l.getD k 0)) = negF (k + 1) l := by
  unfold negF
  rw [Nat.zero_add, List.set_append_right _ _ (by simp; omega), getD_at h, List.drop_eq_getElem_cons h, List.take_succ_eq_append_getElem h, List.map_append, List.append_assoc]
  rw [show k - (List.map (fun x => -x) (l.take k)).length = 0 by simp; omega]
  rfl
theorem negF_0 (l : List Int) : negF 0 l = l := by simp [negF]
theorem negF_n (l : List Int) : negF l.length l = l.map (fun x => -x) := by simp [negF]
theorem cv_u {w : Int} (h : 0 ≤ w ∧ w ≤ 1000000000) : IntKind.u64.wrap w = ((w.toNat : Nat) : Int) := by rw [IntKind.wrap_u64]; omega
theorem wBad_f {w : Int} (h : wBad w = false) : 0 ≤ w ∧ w ≤ 1000000000 := by simp [wBad] at h; omega
theorem wAll {W : List Int} (h : W.any wBad = false) {k : Nat} (hk : k < W.length) : 0 ≤ W[k] ∧ W[k] ≤ 1000000000 := by
  apply wBad_f
  cases hb : wBad W[k] with
  | false => rfl
  | true => rw [List.any_eq_true.2 ⟨_, List.getElem_mem hk, hb⟩] at h; cases h
theorem kdl {a S w : Nat} (ha : a ≤ 1000000000000000) (hw : w ≤ S) (hS : 0 < S) : a * w / 18446744073709551616 < S := by
  rw [Nat.div_lt_iff_lt_mul (by omega), Nat.mul_comm]
  calc w * a ≤ S * 1000000000000000 := Nat.mul_le_mul hw ha
    _ < S * 18446744073709551616 := (Nat.mul_lt_mul_left hS).2 (by omega)
theorem qget (a S : Nat) (W : List Int) (h : ∀ w ∈ W, w.toNat ≤ S) : ∀ j, 0 ≤ (W.map (qA a S)).getD j 0 ∧ (W.map (qA a S)).getD j 0 ≤ a := fun j => by
  by_cases hj : j < W.length
  · rw [getD_at (by simpa using hj), List.getElem_map]; exact qA_le a S _ (h _ (List.getElem_mem hj))
  · rw [List.getD_eq_getElem?_getD, List.getElem?_eq_none (by simpa using hj)]; exact ⟨Int.le_refl _, Int.natCast_nonneg _⟩

theorem allocate_ok (c : Int) (W : List Int) : Ct Try.prog 30 [.raw (.int .i64 c), .tv (rSlice (rInt .i64)) W] (svLI (allocR c W)) := by
  refine ct_intro Try.func30 rfl rfl Try.ntmps30 rfl rfl ?_
  intro w0 ok0
  refine j_len 1 rfl (fun hl0 => ?_)
  refine j_seq ?_
  refine j_region ?_
  refine jg_adr _ rfl _ rfl rfl (op_assign (.base rfl)) ?_
  refine jg_adr _ rfl _ rfl rfl (op_assign (.base rfl)) ?_
  refine jg_nil ?_
  refine jn_keep [0, 1] [] (.cons rfl (.cons rfl .nil)) .nil ?_
  refine jn_seq (j_seq (j_seq ?_))
  refine j_region ?_
  refine jg_adr _ rfl _ rfl rfl (op_move (.base rfl)) ?_
  refine jg_adr _ rfl _ rfl rfl (op_call (beyond_ok _ _ (by omega)) (.cons (.base rfl) (.cons (.base rfl) .nil)) rfl rfl) ?_
  refine jg_nil ?_
  refine jn_keep [0, 1, 26] [] (.cons rfl (.cons rfl (.cons rfl .nil))) .nil ?_
  refine jn_seq ?_
  refine j_cond rfl (fun h1 => ?_) (fun h1 => ?_)
  · skip
    refine j_seq ?_
    refine j_region ?_
    refine jg_adr _ rfl _ rfl rfl (op_assign (.base rfl)) ?_
    refine jg_adr _ rfl _ rfl rfl (op_assign (.base rfl)) ?_
    refine jg_nil ?_
    refine jn_keep [4, 5] [] (.cons rfl (.cons rfl .nil)) .nil ?_
    refine jn_seq (j_ret (jr_seq ?_))
    exact jr_fin2 Try.results30 (res_nil rfl) (res_tmp rfl) ⟨rfl, rfl⟩ (svLI_eq (by unfold allocR; rw [if_pos h1]))
  · have k1 := byd_f h1
    refine j_skip (jn_seq (j_seq (j_seq ?_)))
    refine j_region ?_
    refine jg_adr _ rfl _ rfl rfl (op_move (.base rfl)) ?_
    refine jg_adr _ rfl _ rfl rfl (op_len Try.underlying22 (.base rfl)) ?_
    refine jg_adr _ rfl _ rfl rfl (op_move (.base rfl)) ?_
    refine jg_nil ?_
    refine jn_keep [0, 1, 27, 28, 29] [] (.cons rfl (.cons rfl (.cons rfl (.cons rfl (.cons rfl .nil))))) .nil ?_
    refine jn_seq (j_block ?_)
    refine j_loopp (ι := Nat) (fun k => ⟨[(0, .raw (.int .i64 (c))), (1, .tv (rSlice (rInt .i64)) W), (27, .tv (rSlice (rInt .i64)) W), (28, .raw (.int .i64 (W.length))), (29, .raw (.int .i64 ((k : Nat))))], []⟩) (fun k => k ≤ W.length ∧ (W.take k).any wBad = false) (fun k => W.length - k) 0 (⟨Nat.zero_le _, rfl⟩) (fun a w hi => (Sub.inv ⟨(by repeat (first | exact SubS_nil | refine SubS_cons rfl (by first | rfl | (simp; done) | assumption) ?_)), (by repeat (first | exact SubH_nil | refine SubH_cons rfl (by first | rfl | (simp; done) | assumption) ?_))⟩ hi)) ?_
    rintro k ⟨p1, p2⟩
    refine j_seq ?_
    refine j_region ?_
    refine jg_adr _ rfl _ rfl rfl (op_lss (.base rfl) (.base rfl)) ?_
    refine jg_nil ?_
    refine jn_keep [0, 1, 27, 28, 29, 30] [] (.cons rfl (.cons rfl (.cons rfl (.cons rfl (.cons rfl (.cons rfl .nil)))))) .nil ?_
    refine jn_seq (j_seq ?_)
    refine j_cond rfl (fun h4 => ?_) (fun h4 => ?_)
    · simp at h4
      refine j_skip (jn_seq (j_seq (j_block (j_seq ?_))))
      refine j_region ?_
      refine jg_adr _ rfl _ rfl rfl (op_index Try.underlying22 ty3 (.base rfl) (.base rfl) rfl (List.getElem?_eq_getElem (by first | omega | (simp; done) | (simp; omega) | (simp at hg; omega)))) ?_
      refine jg_adr _ rfl _ rfl rfl (op_load ty3 (.base rfl)) ?_
      refine jg_adr _ rfl _ rfl rfl (op_assign (.base rfl)) ?_
      refine jg_nil ?_
      refine jn_keep [0, 1, 7, 27, 28, 29] [] (.cons rfl (.cons rfl (.cons rfl (.cons rfl (.cons rfl (.cons rfl .nil)))))) .nil ?_
      refine jn_seq (j_seq ?_)
      refine j_region ?_
      refine jg_adr _ rfl _ rfl rfl (op_move (.base rfl)) ?_
      refine jg_adr _ rfl _ rfl rfl (op_lss (.base rfl) (.base rfl)) ?_
      refine jg_adr _ rfl _ rfl rfl (op_move (.base rfl)) ?_
      refine jg_gd _ _ _ _ _ _ rfl rfl rfl rfl rfl (fun hg => op_move (.base rfl)) ?_
      refine jg_gd _ _ _ _ _ _ rfl rfl rfl rfl rfl (fun hg => op_gtr (.gd rfl hg) (.base rfl)) ?_
      refine jg_adr _ rfl _ rfl rfl (op_pick_or (.base rfl) (.base rfl) rfl (by intro h; first | (rw [h]; rfl) | (rw [hg, h]; rfl) | (rw [h, hg]; rfl) | simp_all)) ?_
      refine jg_nil ?_
      refine jn_keep [0, 1, 27, 28, 29, 38] [] (.cons rfl (.cons rfl (.cons rfl (.cons rfl (.cons rfl (.cons rfl .nil)))))) .nil ?_
      refine jn_seq ?_
      refine j_cond rfl (fun h6 => ?_) (fun h6 => ?_)
      · skip
        refine j_seq ?_
        refine j_region ?_
        refine jg_adr _ rfl _ rfl rfl (op_assign (.base rfl)) ?_
        refine jg_adr _ rfl _ rfl rfl (op_assign (.base rfl)) ?_
        refine jg_nil ?_
        refine jn_keep [4, 5] [] (.cons rfl (.cons rfl .nil)) .nil ?_
        refine jn_seq (j_ret (jr_blk (jr_seq (jr_loop (jr_blk (jr_seq ?_))))))
        exact jr_fin2 Try.results30 (res_nil rfl) (res_tmp rfl) ⟨rfl, rfl⟩ (svLI_eq (by unfold allocR; rw [if_neg (by rw [h1]; simp), if_pos (List.any_eq_true.2 ⟨_, List.getElem_mem h4, h6⟩)]))
      · skip
        refine j_skip (jn_blk (jn_seq ?_))
        refine j_region ?_
        refine jg_adr _ rfl _ rfl rfl (op_add (.base rfl) (.base rfl) (w64 (by omega))) ?_
        refine jg_adr _ rfl _ rfl rfl (op_move (.base rfl)) ?_
        refine jg_nil ?_
        refine jn_keep [0, 1, 27, 28, 29] [] (.cons rfl (.cons rfl (.cons rfl (.cons rfl (.cons rfl .nil))))) .nil ?_
        exact jn_loop (fun a w hi => ⟨k + 1, (by first | omega | (simp; omega)), (⟨by omega, by rw [List.take_succ_eq_append_getElem h4, List.any_append, p2]; simpa [wBad] using h6⟩), (Sub.inv ⟨(by repeat (first | exact SubS_nil | refine SubS_cons rfl (by first | rfl | (simp; done) | assumption) ?_)), (by repeat (first | exact SubH_nil | refine SubH_cons rfl (by first | rfl | (simp; done) | assumption) ?_))⟩ hi)⟩)
    · simp at h4
      have hall : W.any wBad = false := by rw [List.take_of_length_le (by omega)] at p2; exact p2
      refine j_exit (je_seq (je_loop (je_blk (jn_seq (j_seq (j_seq ?_))))))
      refine j_region ?_
      refine jg_adr _ rfl _ rfl rfl (op_move (.base rfl)) ?_
      refine jg_adr _ rfl _ rfl rfl (op_len Try.underlying22 (.base rfl)) ?_
      refine jg_adr _ rfl _ rfl rfl (op_gtr (.base rfl) (.base rfl)) ?_
      refine jg_nil ?_
      refine jn_keep [0, 1, 42] [] (.cons rfl (.cons rfl (.cons rfl .nil))) .nil ?_
      refine jn_seq ?_
      refine j_cond rfl (fun h9 => ?_) (fun h9 => ?_)
      · simp at h9
        refine j_seq ?_
        refine j_region ?_
        refine jg_adr _ rfl _ rfl rfl (op_assign (.base rfl)) ?_
        refine jg_adr _ rfl _ rfl rfl (op_assign (.base rfl)) ?_
        refine jg_nil ?_
        refine jn_keep [4, 5] [] (.cons rfl (.cons rfl .nil)) .nil ?_
        refine jn_seq (j_ret (jr_seq ?_))
        exact jr_fin2 Try.results30 (res_nil rfl) (res_tmp rfl) ⟨rfl, rfl⟩ (svLI_eq (by unfold allocR; rw [if_neg (by rw [h1]; simp), if_neg (by rw [hall]; simp), if_pos (by omega)]))
      · simp at h9
        have hn : W.length ≤ 64 := by omega
        refine j_skip (jn_seq (j_seq ?_))
        refine j_region ?_
        refine jg_adr _ rfl _ rfl rfl (op_assign (.base rfl)) ?_
        refine jg_nil ?_
        refine jn_keep [0, 1, 8] [] (.cons rfl (.cons rfl (.cons rfl .nil))) .nil ?_
        refine jn_seq (j_seq (j_seq ?_))
        refine j_region ?_
        refine jg_adr _ rfl _ rfl rfl (op_move (.base rfl)) ?_
        refine jg_adr _ rfl _ rfl rfl (op_len Try.underlying22 (.base rfl)) ?_
        refine jg_adr _ rfl _ rfl rfl (op_move (.base rfl)) ?_
        refine jg_nil ?_
        refine jn_keep [0, 1, 8, 43, 44, 45] [] (.cons rfl (.cons rfl (.cons rfl (.cons rfl (.cons rfl (.cons rfl .nil)))))) .nil ?_
        refine jn_seq (j_block ?_)
        refine j_loopp (ι := Nat) (fun k => ⟨[(0, .raw (.int .i64 (c))), (1, .tv (rSlice (rInt .i64)) W), (8, .raw (.int .i64 ((sumN (W.take k) : Nat)))), (43, .tv (rSlice (rInt .i64)) W), (44, .raw (.int .i64 (W.length))), (45, .raw (.int .i64 ((k : Nat))))], []⟩) (fun k => k ≤ W.length) (fun k => W.length - k) 0 (Nat.zero_le _) (fun a w hi => (Sub.inv ⟨(by repeat (first | exact SubS_nil | refine SubS_cons rfl (by first | rfl | (simp; done) | assumption) ?_)), (by repeat (first | exact SubH_nil | refine SubH_cons rfl (by first | rfl | (simp; done) | assumption) ?_))⟩ hi)) ?_
        rintro k p1
        refine j_seq ?_
        refine j_region ?_
        refine jg_adr _ rfl _ rfl rfl (op_lss (.base rfl) (.base rfl)) ?_
        refine jg_nil ?_
        refine jn_keep [0, 1, 8, 43, 44, 45, 46] [] (.cons rfl (.cons rfl (.cons rfl (.cons rfl (.cons rfl (.cons rfl (.cons rfl .nil))))))) .nil ?_
        refine jn_seq (j_seq ?_)
        refine j_cond rfl (fun h13 => ?_) (fun h13 => ?_)
        · simp at h13
          have hw := wAll hall h13
          have hs := sumN_take W k h13
          have hs2 := sumN_le (W.take (k + 1)) 1000000000 (fun w hw2 => by obtain ⟨j, hj, e⟩ := List.getElem_of_mem (List.mem_of_mem_take hw2); have := wAll hall hj; omega)
          have hs3 : (W.take (k + 1)).length ≤ 64 := by simp; omega
          refine j_skip (jn_seq (j_seq (j_block (j_seq ?_))))
          refine j_region ?_
          refine jg_adr _ rfl _ rfl rfl (op_index Try.underlying22 ty3 (.base rfl) (.base rfl) rfl (List.getElem?_eq_getElem (by first | omega | (simp; done) | (simp; omega) | (simp at hg; omega)))) ?_
          refine jg_adr _ rfl _ rfl rfl (op_load ty3 (.base rfl)) ?_
          refine jg_adr _ rfl _ rfl rfl (op_assign (.base rfl)) ?_
          refine jg_nil ?_
          refine jn_keep [0, 1, 8, 10, 43, 44, 45] [] (.cons rfl (.cons rfl (.cons rfl (.cons rfl (.cons rfl (.cons rfl (.cons rfl .nil))))))) .nil ?_
          refine jn_seq ?_
          refine j_region ?_
          refine jg_adr _ rfl _ rfl rfl (op_move (.base rfl)) ?_
          refine jg_adr _ rfl _ rfl rfl (op_move (.base rfl)) ?_
          refine jg_adr _ rfl _ rfl rfl (op_add (.base rfl) (.base rfl) (w64e (show _ = ((sumN (W.take (k + 1)) : Nat) : Int) by omega) (by omega))) ?_
          refine jg_adr _ rfl _ rfl rfl (op_assign (.base rfl)) ?_
          refine jg_nil ?_
          refine jn_keep [0, 1, 8, 43, 44, 45] [] (.cons rfl (.cons rfl (.cons rfl (.cons rfl (.cons rfl (.cons rfl .nil)))))) .nil ?_
          refine jn_blk (jn_seq ?_)
          refine j_region ?_
          refine jg_adr _ rfl _ rfl rfl (op_add (.base rfl) (.base rfl) (w64 (by omega))) ?_
          refine jg_adr _ rfl _ rfl rfl (op_move (.base rfl)) ?_
          refine jg_nil ?_
          refine jn_keep [0, 1, 8, 43, 44, 45] [] (.cons rfl (.cons rfl (.cons rfl (.cons rfl (.cons rfl (.cons rfl .nil)))))) .nil ?_
          exact jn_loop (fun a w hi => ⟨k + 1, (by first | omega | (simp; omega)), (by omega), (Sub.inv ⟨(by repeat (first | exact SubS_nil | refine SubS_cons rfl (by first | rfl | (simp; done) | assumption) ?_)), (by repeat (first | exact SubH_nil | refine SubH_cons rfl (by first | rfl | (simp; done) | assumption) ?_))⟩ hi)⟩)
        · simp at h13
          obtain rfl : k = W.length := by omega
          refine j_exit (je_seq (je_loop (je_blk (jn_seq (j_seq (j_seq ?_))))))
          rw [List.take_length]
          refine j_region ?_
          refine jg_adr _ rfl _ rfl rfl (op_move (.base rfl)) ?_
          refine jg_adr _ rfl _ rfl rfl (op_eql (.base rfl) (.base rfl)) ?_
          refine jg_nil ?_
          refine jn_keep [0, 1, 8, 54] [] (.cons rfl (.cons rfl (.cons rfl (.cons rfl .nil)))) .nil ?_
          refine jn_seq ?_
          refine j_cond rfl (fun h17 => ?_) (fun h17 => ?_)
          · simp at h17
            refine j_seq ?_
            refine j_region ?_
            refine jg_adr _ rfl _ rfl rfl (op_assign (.base rfl)) ?_
            refine jg_adr _ rfl _ rfl rfl (op_assign (.base rfl)) ?_
            refine jg_nil ?_
            refine jn_keep [4, 5] [] (.cons rfl (.cons rfl .nil)) .nil ?_
            refine jn_seq (j_ret (jr_seq ?_))
            exact jr_fin2 Try.results30 (res_nil rfl) (res_tmp rfl) ⟨rfl, rfl⟩ (svLI_eq (by unfold allocR; rw [if_neg (by rw [h1]; simp), if_neg (by rw [hall]; simp), if_neg (by omega), if_pos (by omega)]))
          · simp at h17
            have hS : 0 < sumN W := by omega
            have hn0 : 0 < W.length := by rcases W with _ | ⟨x, W⟩ <;> simp [sumN] at hS ⊢
            have hW : ∀ w ∈ W, w.toNat ≤ 1000000000 := fun w hw => by obtain ⟨j, hj, e⟩ := List.getElem_of_mem hw; have := wAll hall hj; omega
            have hSle := sumN_le W 1000000000 hW
            have hA : c.natAbs ≤ 1000000000000000 := by omega
            have kr := rest_bounds c.natAbs W hS
            have kqs := qsum_part c.natAbs (sumN W) W
            refine j_skip (jn_seq (j_seq ?_))
            refine j_region ?_
            refine jg_adr _ rfl _ rfl rfl (op_move (.base rfl)) ?_
            refine jg_adr _ rfl _ rfl rfl (op_call (magnitude_ok _ (by omega)) (.cons (.base rfl) .nil) rfl rfl) ?_
            refine jg_adr _ rfl _ rfl rfl (op_assign (.base rfl)) ?_
            refine jg_nil ?_
            refine jn_keep [0, 1, 8, 11] [] (.cons rfl (.cons rfl (.cons rfl (.cons rfl .nil)))) .nil ?_
            refine jn_seq (j_seq ?_)
            refine j_region ?_
            refine jg_adr _ rfl _ rfl rfl (op_move (.base rfl)) ?_
            refine jg_adr _ rfl _ rfl rfl (op_conv ⟨_, Try.underlying57⟩ Try.underlying3 (.base rfl) (w64 (by omega))) ?_
            refine jg_adr _ rfl _ rfl rfl (op_assign (.base rfl)) ?_
            refine jg_nil ?_
            refine jn_keep [0, 1, 8, 11, 12] [] (.cons rfl (.cons rfl (.cons rfl (.cons rfl (.cons rfl .nil))))) .nil ?_
            refine jn_seq (j_seq ?_)
            refine j_region ?_
            refine jg_adr _ rfl _ rfl rfl (op_move (.base rfl)) ?_
            refine jg_adr _ rfl _ rfl rfl (op_len Try.underlying22 (.base rfl)) ?_
            refine jg_os _ rfl (op_make Try.underlying22 ty3 z3 rfl by3 (.base rfl) (.base rfl) (by omega) (by unfold maxLen; omega) rfl rfl rfl) ?_
            refine jg_adr _ rfl _ rfl rfl (op_assign (.base rfl)) ?_
            refine jg_nil ?_
            refine jn_keep [0, 1, 8, 11, 12, 13] [61] (.cons rfl (.cons rfl (.cons rfl (.cons rfl (.cons rfl (.cons rfl .nil)))))) (.cons rfl .nil) ?_
            refine jn_seq (j_seq ?_)
            refine j_region ?_
            refine jg_adr _ rfl _ rfl rfl (op_move (.base rfl)) ?_
            refine jg_adr _ rfl _ rfl rfl (op_len Try.underlying22 (.base rfl)) ?_
            refine jg_os _ rfl (op_make Try.underlying59 ty57 z57 rfl by57 (.base rfl) (.base rfl) (by omega) (by unfold maxLen; omega) rfl rfl rfl) ?_
            refine jg_os _ rfl (op_alloc _ z59 rfl rfl rfl) ?_
            refine jg_os _ rfl (op_ostoreO (i := 14) ty59 rfl (.base rfl) rfl (.base rfl) rfl (dropH_sub _ _) (dropH_no _ _)) ?_
            refine jg_nil ?_
            refine jn_keep [0, 1, 8, 11, 12, 13, 14] [61, 64] (.cons rfl (.cons rfl (.cons rfl (.cons rfl (.cons rfl (.cons rfl (.cons rfl .nil))))))) (.cons rfl (.cons rfl .nil)) ?_
            refine jn_seq (j_seq ?_)
            refine j_region ?_
            refine jg_adr _ rfl _ rfl rfl (op_move (.base rfl)) ?_
            refine jg_adr _ rfl _ rfl rfl (op_len Try.underlying22 (.base rfl)) ?_
            refine jg_os _ rfl (op_make Try.underlying22 ty3 z3 rfl by3 (.base rfl) (.base rfl) (by omega) (by unfold maxLen; omega) rfl rfl rfl) ?_
            refine jg_adr _ rfl _ rfl rfl (op_assign (.base rfl)) ?_
            refine jg_nil ?_
            refine jn_keep [0, 1, 8, 11, 12, 13, 14, 15] [61, 64, 67] (.cons rfl (.cons rfl (.cons rfl (.cons rfl (.cons rfl (.cons rfl (.cons rfl (.cons rfl .nil)))))))) (.cons rfl (.cons rfl (.cons rfl .nil))) ?_
            refine jn_seq (j_seq (j_seq ?_))
            refine j_region ?_
            refine jg_adr _ rfl _ rfl rfl (op_move (.base rfl)) ?_
            refine jg_adr _ rfl _ rfl rfl (op_len Try.underlying22 (.base rfl)) ?_
            refine jg_adr _ rfl _ rfl rfl (op_move (.base rfl)) ?_
            refine jg_nil ?_
            refine jn_keep [0, 8, 11, 12, 13, 14, 15, 68, 69, 70] [61, 64, 67] (.cons rfl (.cons rfl (.cons rfl (.cons rfl (.cons rfl (.cons rfl (.cons rfl (.cons rfl (.cons rfl (.cons rfl .nil)))))))))) (.cons rfl (.cons rfl (.cons rfl .nil))) ?_
            refine jn_seq (j_block ?_)
            refine j_loopp (ι := Nat) (fun k => ⟨[(0, .raw (.int .i64 (c))), (8, .raw (.int .i64 (((sumN W) : Nat)))), (11, .raw (.int .u64 (c.natAbs : Nat))), (12, .raw (.int .i64 ((c.natAbs : Int) - sumI ((W.map (qA c.natAbs (sumN W))).take k)))), (13, .own 61 (rInt .i64).n 0 W.length), (14, .epown 64 (rInt .u64).n 0 W.length), (15, .own 67 (rInt .i64).n 0 W.length), (68, .tv (rSlice (rInt .i64)) W), (69, .raw (.int .i64 (W.length))), (70, .raw (.int .i64 ((k : Nat))))], [(61, ⟨rInt .i64, fillL (qA c.natAbs (sumN W)) W k⟩), (64, ⟨rInt .u64, fillL (rA c.natAbs (sumN W)) W k⟩), (67, ⟨rInt .i64, iotaF k W.length⟩)]⟩) (fun k => k ≤ W.length) (fun k => W.length - k) 0 (Nat.zero_le _) (fun a w hi => (Sub.inv ⟨(by repeat (first | exact SubS_nil | refine SubS_cons rfl (by first | rfl | (simp; done) | assumption | (refine ri ?_; first | omega | (simp [sumI]; done))) ?_)), (by repeat (first | exact SubH_nil | refine SubH_cons rfl (by first | rfl | exact congrArg (HB.mk _) ((fill_0 _ W).symm) | exact congrArg (HB.mk _) ((show List.replicate W.length (0 : Int) = iotaF 0 W.length by simp [iotaF, iota])) | (simp; done) | assumption) ?_))⟩ hi)) ?_
            rintro k p1
            refine j_seq ?_
            refine j_region ?_
            refine jg_adr _ rfl _ rfl rfl (op_lss (.base rfl) (.base rfl)) ?_
            refine jg_nil ?_
            refine jn_keep [0, 8, 11, 12, 13, 14, 15, 68, 69, 70, 71] [61, 64, 67] (.cons rfl (.cons rfl (.cons rfl (.cons rfl (.cons rfl (.cons rfl (.cons rfl (.cons rfl (.cons rfl (.cons rfl (.cons rfl .nil))))))))))) (.cons rfl (.cons rfl (.cons rfl .nil))) ?_
            refine jn_seq (j_seq ?_)
            refine j_cond rfl (fun h25 => ?_) (fun h25 => ?_)
            · simp at h25
              have hw := wAll hall h25
              have hwS := sumN_mem (List.getElem_mem h25)
              have kq := qA_le c.natAbs (sumN W) W[k] hwS
              have ks := sumI_take (W.map (qA c.natAbs (sumN W))) k (by simpa using h25)
              rw [List.getElem_map] at ks
              have ks1 := kqs (k + 1)
              have kr1 := kr.1
              unfold restA at kr1
              have ks : sumI ((W.map (qA c.natAbs (sumN W))).take (k + 1)) = sumI ((W.map (qA c.natAbs (sumN W))).take k) + ((c.natAbs * W[k].toNat / sumN W : Nat) : Int) := ks
              have kq : 0 ≤ ((c.natAbs * W[k].toNat / sumN W : Nat) : Int) ∧ ((c.natAbs * W[k].toNat / sumN W : Nat) : Int) ≤ c.natAbs := kq
              refine j_skip (jn_seq (j_seq (j_block (j_seq ?_))))
              refine j_region ?_
              refine jg_adr _ rfl _ rfl rfl (op_move (.base rfl)) ?_
              refine jg_adr _ rfl _ rfl rfl (op_index Try.underlying22 ty3 (.base rfl) (.base rfl) rfl (List.getElem?_eq_getElem (by first | omega | (simp; done) | (simp; omega) | (simp at hg; omega)))) ?_
              refine jg_adr _ rfl _ rfl rfl (op_load ty3 (.base rfl)) ?_
              refine jg_adr _ rfl _ rfl rfl (op_assign (.base rfl)) ?_
              refine jg_adr _ rfl _ rfl rfl (op_assign (.base rfl)) ?_
              refine jg_nil ?_
              refine jn_keep [0, 8, 11, 12, 13, 14, 15, 16, 17, 68, 69, 70] [61, 64, 67] (.cons rfl (.cons rfl (.cons rfl (.cons rfl (.cons rfl (.cons rfl (.cons rfl (.cons rfl (.cons rfl (.cons rfl (.cons rfl (.cons rfl .nil)))))))))))) (.cons rfl (.cons rfl (.cons rfl .nil))) ?_
              refine jn_seq (j_seq ?_)
              refine j_region ?_
              refine jg_adr _ rfl _ rfl rfl (op_move (.base rfl)) ?_
              refine jg_adr _ rfl _ rfl rfl (op_move (.base rfl)) ?_
              refine jg_adr _ rfl _ rfl rfl (op_conv ⟨_, Try.underlying3⟩ Try.underlying57 (.base rfl) (cv_u hw)) ?_
              refine jg_adr _ rfl _ rfl rfl (op_call (mul64_ok (by omega) (by omega)) (.cons (.base rfl) (.cons (.base rfl) .nil)) rfl rfl) ?_
              refine jg_adr _ rfl _ rfl rfl (op_move (.base rfl)) ?_
              refine jg_adr _ rfl _ rfl rfl (op_ext20 (.base rfl)) ?_
              refine jg_adr _ rfl _ rfl rfl (op_ext21 (.base rfl)) ?_
              refine jg_adr _ rfl _ rfl rfl (op_assign (.base rfl)) ?_
              refine jg_adr _ rfl _ rfl rfl (op_assign (.base rfl)) ?_
              refine jg_nil ?_
              refine jn_keep [0, 8, 11, 12, 13, 14, 15, 16, 18, 19, 68, 69, 70] [61, 64, 67] (.cons rfl (.cons rfl (.cons rfl (.cons rfl (.cons rfl (.cons rfl (.cons rfl (.cons rfl (.cons rfl (.cons rfl (.cons rfl (.cons rfl (.cons rfl .nil))))))))))))) (.cons rfl (.cons rfl (.cons rfl .nil))) ?_
              refine jn_seq (j_seq ?_)
              refine j_region ?_
              refine jg_adr _ rfl _ rfl rfl (op_move (.base rfl)) ?_
              refine jg_adr _ rfl _ rfl rfl (op_move (.base rfl)) ?_
              refine jg_adr _ rfl _ rfl rfl (op_move (.base rfl)) ?_
              refine jg_adr _ rfl _ rfl rfl (op_conv ⟨_, Try.underlying3⟩ Try.underlying57 (.base rfl) (wu (by omega))) ?_
              refine jg_adr _ rfl _ rfl rfl (op_call (div64_ok (kdl hA hwS hS) (by omega) (Nat.mod_lt _ (by omega))) (.cons (.base rfl) (.cons (.base rfl) (.cons (.base rfl) .nil))) rfl rfl) ?_
              refine jg_adr _ rfl _ rfl rfl (op_move (.base rfl)) ?_
              refine jg_adr _ rfl _ rfl rfl (op_ext20 (.base rfl)) ?_
              refine jg_adr _ rfl _ rfl rfl (op_ext21 (.base rfl)) ?_
              refine jg_adr _ rfl _ rfl rfl (op_assign (.base rfl)) ?_
              refine jg_adr _ rfl _ rfl rfl (op_assign (.base rfl)) ?_
              refine jg_nil ?_
              rw [Nat.div_add_mod' _ _]
              refine jn_keep [0, 8, 11, 12, 13, 14, 15, 16, 20, 21, 68, 69, 70] [61, 64, 67] (.cons rfl (.cons rfl (.cons rfl (.cons rfl (.cons rfl (.cons rfl (.cons rfl (.cons rfl (.cons rfl (.cons rfl (.cons rfl (.cons rfl (.cons rfl .nil))))))))))))) (.cons rfl (.cons rfl (.cons rfl .nil))) ?_
              refine jn_seq (j_seq ?_)
              refine j_drawE mo (by kernel_rfl) (
                AE.cons _ _ _ rfl (gh_ga [61] (ga_adr rfl rfl rfl (op_move (.base rfl))) (by kernel_rfl)) (
                AE.cons _ _ _ rfl (gh_ga [] (ga_adr rfl rfl rfl (op_move (.base rfl))) (by kernel_rfl)) (
                AE.cons _ _ _ rfl (gh_ga [64] (ga_adr rfl rfl rfl (op_loadE ty59 (.base rfl))) (by kernel_rfl)) (
                AE.cons _ _ _ rfl (gh_ga [] (ga_adr rfl rfl rfl (op_move (.base rfl))) (by kernel_rfl)) (
                AE.cons _ _ _ rfl (gh_ga [67] (ga_adr rfl rfl rfl (op_move (.base rfl))) (by kernel_rfl)) (
                AE.cons _ _ _ rfl (gh_ga [] (ga_adr rfl rfl rfl (op_move (.base rfl))) (by kernel_rfl)) (
                AE.cons _ _ _ rfl (gh_ga [] (ga_adr rfl rfl rfl (op_move (.base rfl))) (by kernel_rfl)) (
                AE.cons _ _ _ rfl (gh_ga [] (ga_adr rfl rfl rfl (op_conv ⟨_, Try.underlying57⟩ Try.underlying3 (.base rfl) (w64 (by omega)))) (by kernel_rfl)) (
                AE.cons _ _ _ rfl (gh_ga [] (ga_adr rfl rfl rfl (op_move (.base rfl))) (by kernel_rfl)) (
                AE.cons _ _ _ rfl (gh_ga [] (ga_adr rfl rfl rfl (op_move (.base rfl))) (by kernel_rfl)) (
                AE.cons _ _ _ rfl (gh_oindex rfl Try.underlying22 ty3 (.base rfl) (.base rfl) rfl (by first | omega | (simp; done) | (simp; omega))) (
                AE.cons _ _ _ rfl (gh_store ty3 (.base rfl) rfl (List.getElem?_eq_getElem (by rw [fill_len _ _ _ (by omega)]; omega)) (Lens.id _) (.raw (.base rfl) rfl)) (
                AE.cons _ _ _ rfl (gh_oindex rfl Try.underlying59 ty57 (.base rfl) (.base rfl) rfl (by first | omega | (simp; done) | (simp; omega))) (
                AE.cons _ _ _ rfl (gh_store ty57 (.base rfl) rfl (List.getElem?_eq_getElem (by rw [fill_len _ _ _ (by omega)]; omega)) (Lens.id _) (.raw (.base rfl) rfl)) (
                AE.cons _ _ _ rfl (gh_oindex rfl Try.underlying22 ty3 (.base rfl) (.base rfl) rfl (by first | omega | (simp; done) | (simp; omega))) (
                AE.cons _ _ _ rfl (gh_store ty3 (.base rfl) rfl (List.getElem?_eq_getElem (by rw [iotaF_len _ _ (by omega)]; omega)) (Lens.id _) (.raw (.base rfl) rfl)) (
                AE.nil))))))))))))))))) (by kernel_rfl) ?_
              refine jn_keep [0, 8, 11, 12, 13, 14, 15, 20, 68, 69, 70] [61, 64, 67] (.cons rfl (.cons rfl (.cons rfl (.cons rfl (.cons rfl (.cons rfl (.cons rfl (.cons rfl (.cons rfl (.cons rfl (.cons rfl .nil))))))))))) (.cons rfl (.cons rfl (.cons rfl .nil))) ?_
              refine jn_seq ?_
              refine j_region ?_
              refine jg_adr _ rfl _ rfl rfl (op_move (.base rfl)) ?_
              refine jg_adr _ rfl _ rfl rfl (op_move (.base rfl)) ?_
              refine jg_adr _ rfl _ rfl rfl (op_conv ⟨_, Try.underlying57⟩ Try.underlying3 (.base rfl) (w64 (by omega))) ?_
              refine jg_adr _ rfl _ rfl rfl (op_sub (.base rfl) (.base rfl) (w64e (show _ = (c.natAbs : Int) - sumI ((W.map (qA c.natAbs (sumN W))).take (k + 1)) by omega) (by omega))) ?_
              refine jg_adr _ rfl _ rfl rfl (op_assign (.base rfl)) ?_
              refine jg_nil ?_
              refine jn_keep [0, 8, 11, 12, 13, 14, 15, 68, 69, 70] [61, 64, 67] (.cons rfl (.cons rfl (.cons rfl (.cons rfl (.cons rfl (.cons rfl (.cons rfl (.cons rfl (.cons rfl (.cons rfl .nil)))))))))) (.cons rfl (.cons rfl (.cons rfl .nil))) ?_
              refine jn_blk (jn_seq ?_)
              refine j_region ?_
              refine jg_adr _ rfl _ rfl rfl (op_add (.base rfl) (.base rfl) (w64 (by omega))) ?_
              refine jg_adr _ rfl _ rfl rfl (op_move (.base rfl)) ?_
              refine jg_nil ?_
              refine jn_keep [0, 8, 11, 12, 13, 14, 15, 68, 69, 70] [61, 64, 67] (.cons rfl (.cons rfl (.cons rfl (.cons rfl (.cons rfl (.cons rfl (.cons rfl (.cons rfl (.cons rfl (.cons rfl .nil)))))))))) (.cons rfl (.cons rfl (.cons rfl .nil))) ?_
              exact jn_loop (fun a w hi => ⟨k + 1, (by first | omega | (simp; omega)), (by omega), (Sub.inv ⟨(by repeat (first | exact SubS_nil | refine SubS_cons rfl (by first | rfl | (simp; done) | assumption | (refine ri ?_; first | omega | (simp [sumI]; done))) ?_)), (by repeat (first | exact SubH_nil | refine SubH_cons rfl (by first | rfl | exact congrArg (HB.mk _) (fill_set _ W k h25) | exact congrArg (HB.mk _) (iotaF_set k W.length h25) | exact congrArg (HB.mk _) ((by rw [Nat.zero_add]; exact fill_set _ W k h25)) | exact congrArg (HB.mk _) ((by rw [Nat.zero_add]; exact iotaF_set k W.length h25)) | (simp; done) | assumption) ?_))⟩ hi)⟩)
            · simp at h25
              obtain rfl : k = W.length := by omega
              refine j_exit (je_seq (je_loop (je_blk (jn_seq (j_seq ?_)))))
              rw [fill_n, fill_n, iotaF_R (W.map (rA c.natAbs (sumN W))) (by simp), List.take_of_length_le (by simp)]
              have hR0 : 0 < (W.map (rA c.natAbs (sumN W))).length := by simpa using hn0
              obtain ⟨kin, hkin⟩ : ∃ q : Inhabited (Fin (W.map (rA c.natAbs (sumN W))).length), q = ⟨⟨0, hR0⟩⟩ := ⟨_, rfl⟩
              refine j_sealE (rt := rInt .u64) 64 14 (dropH 64 _) rfl rfl (by simp) (dropH_sub 64 _) (dropH_no 64 _) ?_
              rw [List.drop_zero, List.take_of_length_le (by simp)]
              refine j_region ?_
              refine jg_adr _ rfl _ rfl rfl (op_move (.base rfl)) ?_
              refine jg_adr _ rfl _ rfl rfl (op_mkfun2 (A := rInt .i64) (D := rInt .i64) (B := rInt .i64) (φ := (fun x y => (0 ≤ x ∧ x < ((W.map (rA c.natAbs (sumN W))).length : Int)) ∧ (0 ≤ y ∧ y < ((W.map (rA c.natAbs (sumN W))).length : Int)))) (cmpA (W.map (rA c.natAbs (sumN W)))) (callFunc_enter Try.func42 rfl (by kernel_rfl)) (fun x y h => cmpA_ok _ x y h.1 h.2 (by simpa using hn)) (.cons (.base rfl) .nil) rfl) ?_
              refine jg_os _ rfl (op_sortF Try.laysSF41 (fun i : Fin (W.map (rA c.natAbs (sumN W))).length => (i.val : Int)) (fun i j => cmpA (W.map (rA c.natAbs (sumN W))) i.val j.val) (cmpA_swo _) (f := cmpA (W.map (rA c.natAbs (sumN W)))) (φ := (fun x y => (0 ≤ x ∧ x < ((W.map (rA c.natAbs (sumN W))).length : Int)) ∧ (0 ≤ y ∧ y < ((W.map (rA c.natAbs (sumN W))).length : Int)))) (fun x y => ⟨by have := x.isLt; omega, by have := y.isLt; omega⟩) (fun _ _ => rfl) rfl (callFunc_enter Try.func41 rfl (by kernel_rfl)) (.base rfl) (.base rfl) rfl (by simp) (by intro e; have := congrArg List.length e; rw [List.length_finRange, List.length_nil] at this; omega) (by rw [List.length_finRange]; simp; omega) rfl) ?_
              refine jg_nil ?_
              subst hkin
              rw [ordA_eq (W.map (rA c.natAbs (sumN W))) hR0]
              refine jn_keep [0, 12, 13, 15] [61, 67] (.cons rfl (.cons rfl (.cons rfl (.cons rfl .nil)))) (.cons rfl (.cons rfl .nil)) ?_
              refine jn_seq (j_seq (j_seq ?_))
              refine j_region ?_
              refine jg_adr _ rfl _ rfl rfl (op_move (.base rfl)) ?_
              refine jg_adr _ rfl _ rfl rfl (op_move (.base rfl)) ?_
              refine jg_adr _ rfl _ rfl rfl (op_oslice Try.underlying22 ty3 (.base rfl) rfl ⟨_, _, (.base rfl), (Int.toNat_of_nonneg kr.1).symm⟩ (by omega) (by omega)) ?_
              refine jg_adr _ rfl _ rfl rfl (op_len_own Try.underlying22 (.base rfl)) ?_
              refine jg_adr _ rfl _ rfl rfl (op_move (.base rfl)) ?_
              refine jg_nil ?_
              refine jn_keep [0, 13, 113, 114, 115] [61, 67] (.cons rfl (.cons rfl (.cons rfl (.cons rfl (.cons rfl .nil))))) (.cons rfl (.cons rfl .nil)) ?_
              refine jn_seq (j_block ?_)
              refine j_loopp (ι := Nat) (fun k => ⟨[(0, .raw (.int .i64 (c))), (13, .own 61 (rInt .i64).n 0 W.length), (113, .own 67 (rInt .i64).n 0 (restA c.natAbs (sumN W) W).toNat), (114, .raw (.int .i64 (((restA c.natAbs (sumN W) W).toNat : Nat)))), (115, .raw (.int .i64 ((k : Nat))))], [(61, ⟨rInt .i64, bump (W.map (qA c.natAbs (sumN W))) ((ordA (W.map (rA c.natAbs (sumN W)))).take k)⟩), (67, ⟨rInt .i64, ordA (W.map (rA c.natAbs (sumN W)))⟩)]⟩) (fun k => k ≤ (restA c.natAbs (sumN W) W).toNat) (fun k => (restA c.natAbs (sumN W) W).toNat - k) 0 (Nat.zero_le _) (fun a w hi => (Sub.inv ⟨(by repeat (first | exact SubS_nil | refine SubS_cons rfl (by first | rfl | (simp; done) | assumption) ?_)), (by repeat (first | exact SubH_nil | refine SubH_cons rfl (by first | rfl | (simp; done) | assumption) ?_))⟩ hi)) ?_
              rintro k p1
              refine j_seq ?_
              refine j_region ?_
              refine jg_adr _ rfl _ rfl rfl (op_lss (.base rfl) (.base rfl)) ?_
              refine jg_nil ?_
              refine jn_keep [0, 13, 113, 114, 115, 116] [61, 67] (.cons rfl (.cons rfl (.cons rfl (.cons rfl (.cons rfl (.cons rfl .nil)))))) (.cons rfl (.cons rfl .nil)) ?_
              refine jn_seq (j_seq ?_)
              refine j_cond rfl (fun h34 => ?_) (fun h34 => ?_)
              · simp at h34
                have hki : k < (W.map (rA c.natAbs (sumN W))).length := by simp; omega
                have ki := ord_in hki
                have ki3 : ((ordA (W.map (rA c.natAbs (sumN W)))).getD k 0).toNat < W.length := by have := ki.2; rw [List.length_map] at this; omega
                have ki2 : ((ordA (W.map (rA c.natAbs (sumN W)))).getD k 0).toNat < (W.map (qA c.natAbs (sumN W))).length := by rw [List.length_map]; exact ki3
                have kb := bump_bd (is := (ordA (W.map (rA c.natAbs (sumN W)))).take k) (qget c.natAbs (sumN W) W (fun w hw => sumN_mem hw)) ((ordA (W.map (rA c.natAbs (sumN W)))).getD k 0).toNat
                have kb2 : ((ordA (W.map (rA c.natAbs (sumN W)))).take k).length ≤ 64 := by simp; omega
                refine j_skip (jn_seq (j_seq (j_block (j_seq ?_))))
                refine j_region ?_
                refine jg_adr _ rfl _ rfl rfl (op_oindex Try.underlying22 ty3 (.base rfl) (.base rfl) rfl (by first | omega | (simp; done) | (simp; omega))) ?_
                refine jg_adr _ rfl _ rfl rfl (op_oload ty3 (.base rfl) rfl (ord_at hki) (Lens.id _)) ?_
                refine jg_adr _ rfl _ rfl rfl (op_assign (.base rfl)) ?_
                refine jg_nil ?_
                refine jn_keep [0, 13, 23, 113, 114, 115] [61, 67] (.cons rfl (.cons rfl (.cons rfl (.cons rfl (.cons rfl (.cons rfl .nil)))))) (.cons rfl (.cons rfl .nil)) ?_
                refine jn_seq ?_
                refine j_region ?_
                refine jg_adr _ rfl _ rfl rfl (op_move (.base rfl)) ?_
                refine jg_adr _ rfl _ rfl rfl (op_move (.base rfl)) ?_
                refine jg_adr _ rfl _ rfl rfl (op_oindex Try.underlying22 ty3 (.base rfl) (.base rfl) (Int.toNat_of_nonneg ki.1).symm (by first | omega | (simp; done) | (simp; omega))) ?_
                refine jg_adr _ rfl _ rfl rfl (op_oload ty3 (.base rfl) rfl (bump_at ki2) (Lens.id _)) ?_
                refine jg_adr _ rfl _ rfl rfl (op_add (.base rfl) (.base rfl) (w64 (by omega))) ?_
                refine jg_adr _ rfl _ rfl rfl (op_oindex Try.underlying22 ty3 (.base rfl) (.base rfl) (Int.toNat_of_nonneg ki.1).symm (by first | omega | (simp; done) | (simp; omega))) ?_
                refine jg_os _ rfl (op_ostore ty3 (.base rfl) rfl (bump_at ki2) (Lens.id _) (.raw (.base rfl) rfl)) ?_
                refine jg_nil ?_
                refine jn_keep [0, 13, 113, 114, 115] [61, 67] (.cons rfl (.cons rfl (.cons rfl (.cons rfl (.cons rfl .nil))))) (.cons rfl (.cons rfl .nil)) ?_
                refine jn_blk (jn_seq ?_)
                refine j_region ?_
                refine jg_adr _ rfl _ rfl rfl (op_add (.base rfl) (.base rfl) (w64 (by omega))) ?_
                refine jg_adr _ rfl _ rfl rfl (op_move (.base rfl)) ?_
                refine jg_nil ?_
                refine jn_keep [0, 13, 113, 114, 115] [61, 67] (.cons rfl (.cons rfl (.cons rfl (.cons rfl (.cons rfl .nil))))) (.cons rfl (.cons rfl .nil)) ?_
                exact jn_loop (fun a w hi => ⟨k + 1, (by first | omega | (simp; omega)), (by omega), (Sub.inv ⟨(by repeat (first | exact SubS_nil | refine SubS_cons rfl (by first | rfl | (simp; done) | assumption | (refine ri ?_; first | omega | (simp [sumI]; done))) ?_)), (by repeat (first | exact SubH_nil | refine SubH_cons rfl (by first | rfl | exact congrArg (HB.mk _) ((bump_take (by simp; omega)).symm) | (simp; done) | assumption) ?_))⟩ hi)⟩)
              · simp at h34
                obtain rfl : k = (restA c.natAbs (sumN W) W).toNat := by omega
                refine j_exit (je_seq (je_loop (je_blk (jn_seq (j_seq (j_seq ?_))))))
                refine j_region ?_
                refine jg_adr _ rfl _ rfl rfl (op_move (.base rfl)) ?_
                refine jg_adr _ rfl _ rfl rfl (op_lss (.base rfl) (.base rfl)) ?_
                refine jg_nil ?_
                refine jn_keep [13, 127] [61] (.cons rfl (.cons rfl .nil)) (.cons rfl .nil) ?_
                refine jn_seq ?_
                refine j_cond rfl (fun h38 => ?_) (fun h38 => ?_)
                · simp at h38
                  refine j_seq ?_
                  refine j_region ?_
                  refine jg_adr _ rfl _ rfl rfl (op_move (.base rfl)) ?_
                  refine jg_adr _ rfl _ rfl rfl (op_len_own Try.underlying22 (.base rfl)) ?_
                  refine jg_adr _ rfl _ rfl rfl (op_move (.base rfl)) ?_
                  refine jg_nil ?_
                  refine jn_keep [13, 129, 130] [61] (.cons rfl (.cons rfl (.cons rfl .nil))) (.cons rfl .nil) ?_
                  refine jn_seq (j_block ?_)
                  refine j_loopp (ι := Nat) (fun k => ⟨[(13, .own 61 (rInt .i64).n 0 W.length), (129, .raw (.int .i64 (W.length))), (130, .raw (.int .i64 ((k : Nat))))], [(61, ⟨rInt .i64, negF k (bump (W.map (qA c.natAbs (sumN W))) ((ordA (W.map (rA c.natAbs (sumN W)))).take (restA c.natAbs (sumN W) W).toNat))⟩)]⟩) (fun k => k ≤ W.length) (fun k => W.length - k) 0 (Nat.zero_le _) (fun a w hi => (Sub.inv ⟨(by repeat (first | exact SubS_nil | refine SubS_cons rfl (by first | rfl | (simp; done) | assumption | (refine ri ?_; first | omega | (simp [sumI]; done))) ?_)), (by repeat (first | exact SubH_nil | refine SubH_cons rfl (by first | rfl | exact congrArg (HB.mk _) ((negF_0 _).symm) | (simp; done) | assumption) ?_))⟩ hi)) ?_
                  rintro k p2
                  refine j_seq ?_
                  refine j_region ?_
                  refine jg_adr _ rfl _ rfl rfl (op_lss (.base rfl) (.base rfl)) ?_
                  refine jg_nil ?_
                  refine jn_keep [13, 129, 130, 131] [61] (.cons rfl (.cons rfl (.cons rfl (.cons rfl .nil)))) (.cons rfl .nil) ?_
                  refine jn_seq (j_seq ?_)
                  refine j_cond rfl (fun h40 => ?_) (fun h40 => ?_)
                  · simp at h40
                    have kl : k < (bump (W.map (qA c.natAbs (sumN W))) ((ordA (W.map (rA c.natAbs (sumN W)))).take (restA c.natAbs (sumN W) W).toNat)).length := by rw [bump_len]; simpa using h40
                    have kb := bump_bd (is := (ordA (W.map (rA c.natAbs (sumN W)))).take (restA c.natAbs (sumN W) W).toNat) (qget c.natAbs (sumN W) W (fun w hw => sumN_mem hw)) k
                    have kb2 : ((ordA (W.map (rA c.natAbs (sumN W)))).take (restA c.natAbs (sumN W) W).toNat).length ≤ 64 := by simp; omega
                    refine j_skip (jn_seq (j_seq (j_block (j_seq ?_))))
                    refine j_region ?_
                    refine jg_adr _ rfl _ rfl rfl (op_move (.base rfl)) ?_
                    refine jg_adr _ rfl _ rfl rfl (op_assign (.base rfl)) ?_
                    refine jg_nil ?_
                    refine jn_keep [13, 24, 129, 130] [61] (.cons rfl (.cons rfl (.cons rfl (.cons rfl .nil)))) (.cons rfl .nil) ?_
                    refine jn_seq ?_
                    refine j_region ?_
                    refine jg_adr _ rfl _ rfl rfl (op_move (.base rfl)) ?_
                    refine jg_adr _ rfl _ rfl rfl (op_move (.base rfl)) ?_
                    refine jg_adr _ rfl _ rfl rfl (op_move (.base rfl)) ?_
                    refine jg_adr _ rfl _ rfl rfl (op_move (.base rfl)) ?_
                    refine jg_adr _ rfl _ rfl rfl (op_oindex Try.underlying22 ty3 (.base rfl) (.base rfl) rfl (by first | omega | (simp; done) | (simp; omega))) ?_
                    refine jg_adr _ rfl _ rfl rfl (op_oload ty3 (.base rfl) rfl (negF_at kl) (Lens.id _)) ?_
                    refine jg_adr _ rfl _ rfl rfl (op_neg (.base rfl) (w64 (by omega))) ?_
                    refine jg_adr _ rfl _ rfl rfl (op_oindex Try.underlying22 ty3 (.base rfl) (.base rfl) rfl (by first | omega | (simp; done) | (simp; omega))) ?_
                    refine jg_os _ rfl (op_ostore ty3 (.base rfl) rfl (negF_at kl) (Lens.id _) (.raw (.base rfl) rfl)) ?_
                    refine jg_nil ?_
                    refine jn_keep [13, 129, 130] [61] (.cons rfl (.cons rfl (.cons rfl .nil))) (.cons rfl .nil) ?_
                    refine jn_blk (jn_seq ?_)
                    refine j_region ?_
                    refine jg_adr _ rfl _ rfl rfl (op_add (.base rfl) (.base rfl) (w64 (by omega))) ?_
                    refine jg_adr _ rfl _ rfl rfl (op_move (.base rfl)) ?_
                    refine jg_nil ?_
                    refine jn_keep [13, 129, 130] [61] (.cons rfl (.cons rfl (.cons rfl .nil))) (.cons rfl .nil) ?_
                    exact jn_loop (fun a w hi => ⟨k + 1, (by first | omega | (simp; omega)), (by omega), (Sub.inv ⟨(by repeat (first | exact SubS_nil | refine SubS_cons rfl (by first | rfl | (simp; done) | assumption | (refine ri ?_; first | omega | (simp [sumI]; done))) ?_)), (by repeat (first | exact SubH_nil | refine SubH_cons rfl (by first | rfl | exact congrArg (HB.mk _) (negF_set kl) | (simp; done) | assumption) ?_))⟩ hi)⟩)
                  · simp at h40
                    obtain rfl : k = W.length := by omega
                    refine j_exit (je_seq (je_loop (je_blk (jn_seq (j_seq ?_)))))
                    refine j_region ?_
                    refine jg_adr _ rfl _ rfl rfl (op_move (.base rfl)) ?_
                    refine jg_adr _ rfl _ rfl rfl (op_assign (.base rfl)) ?_
                    refine jg_adr _ rfl _ rfl rfl (op_assign (.base rfl)) ?_
                    refine jg_nil ?_
                    refine jn_keep [4, 5] [61] (.cons rfl (.cons rfl .nil)) (.cons rfl .nil) ?_
                    refine jn_seq (j_ret ?_)
                    refine jr_seal (rt := rInt .i64) 61 4 (dropH 61 _) rfl rfl (by first | (rw [bump_len]; simp; done) | (rw [negF_len, bump_len]; simp; done)) (dropH_sub 61 _) (dropH_no 61 _) ?_
                    rw [List.drop_zero, List.take_of_length_le (by first | (rw [bump_len]; simp; done) | (rw [negF_len, bump_len]; simp; done))]
                    exact jr_fin2 Try.results30 (res_tmp rfl) (res_tmp rfl) ⟨rfl, rfl⟩ (svLI_eq (by unfold allocR; rw [if_neg (by rw [h1]; simp), if_neg (by rw [hall]; simp), if_neg (by omega), if_neg (by omega)]; first | (rw [if_neg (by omega)]; done) | (rw [if_pos (by omega), ← negF_n, bump_len, List.length_map]; done)))
                · simp at h38
                  refine j_skip (jn_seq (j_seq ?_))
                  refine j_region ?_
                  refine jg_adr _ rfl _ rfl rfl (op_move (.base rfl)) ?_
                  refine jg_adr _ rfl _ rfl rfl (op_assign (.base rfl)) ?_
                  refine jg_adr _ rfl _ rfl rfl (op_assign (.base rfl)) ?_
                  refine jg_nil ?_
                  refine jn_keep [4, 5] [61] (.cons rfl (.cons rfl .nil)) (.cons rfl .nil) ?_
                  refine jn_seq (j_ret ?_)
                  refine jr_seal (rt := rInt .i64) 61 4 (dropH 61 _) rfl rfl (by first | (rw [bump_len]; simp; done) | (rw [negF_len, bump_len]; simp; done)) (dropH_sub 61 _) (dropH_no 61 _) ?_
                  rw [List.drop_zero, List.take_of_length_le (by first | (rw [bump_len]; simp; done) | (rw [negF_len, bump_len]; simp; done))]
                  exact jr_fin2 Try.results30 (res_tmp rfl) (res_tmp rfl) ⟨rfl, rfl⟩ (svLI_eq (by unfold allocR; rw [if_neg (by rw [h1]; simp), if_neg (by rw [hall]; simp), if_neg (by omega), if_neg (by omega)]; first | (rw [if_neg (by omega)]; done) | (rw [if_pos (by omega), ← negF_n, bump_len, List.length_map]; done)))

end Go.Proofs.Ytfmoolclokffjaa
