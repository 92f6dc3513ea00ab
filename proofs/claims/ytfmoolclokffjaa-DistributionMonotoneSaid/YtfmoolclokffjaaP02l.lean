import Derived.Test.YtfmoolclokffjaaP02k
import Derived.Test.YtfmoolclokffjaaSame
namespace Go.Proofs.Ytfmoolclokffjaa
open Go.Eng
set_option maxRecDepth 100000
set_option maxHeartbeats 4000000
set_option linter.unusedVariables false
set_option linter.unusedSimpArgs false


def zeroR (l is : List Int) : List Int := is.foldl (fun l i => l.set i.toNat 0) l
@[simp] theorem zero_len (l is : List Int) : (zeroR l is).length = l.length := by
  unfold zeroR
  induction is generalizing l with
  | nil => rfl
  | cons i is ih => rw [List.foldl_cons, ih]; simp
theorem zero_at {l is : List Int} {j : Nat} (h : j < l.length) : (zeroR l is)[0 + j]? = some ((zeroR l is).getD j 0) := by
  rw [Nat.zero_add, List.getElem?_eq_getElem (by rw [zero_len]; exact h), getD_at (by rw [zero_len]; exact h)]
theorem zero_take {l R : List Int} {k : Nat} (h : k < R.length) : zeroR l ((ordA R).take (k + 1)) = (zeroR l ((ordA R).take k)).set (0 + ((ordA R).getD k 0).toNat) 0 := by
  rw [List.take_succ_eq_append_getElem (by rw [ordA_len]; exact h), Nat.zero_add, show (ordA R).getD k 0 = (ordA R)[k]'(by rw [ordA_len]; exact h) from getD_at _]
  unfold zeroR; rw [List.foldl_append]; rfl
theorem zero_val {l is : List Int} (h0 : ∀ x ∈ is, 0 ≤ x) (j : Nat) : (zeroR l is).getD j 0 = if (j : Int) ∈ is then 0 else l.getD j 0 := by
  unfold zeroR
  induction is generalizing l with
  | nil => simp
  | cons i is ih =>
    rw [List.foldl_cons, ih (fun x hx => h0 x (by simp [hx]))]
    have hi0 := h0 i (by simp)
    by_cases hm : (j : Int) ∈ is
    · rw [if_pos hm, if_pos (by simp [hm])]
    · rw [if_neg hm]
      by_cases e : i.toNat = j
      · have e2 : (j : Int) = i := by omega
        rw [if_pos (by rw [e2]; simp)]
        simp only [List.getD_eq_getElem?_getD, List.getElem?_set, if_pos e]
        split <;> rfl
      · have hne : (j : Int) ≠ i := by omega
        rw [if_neg (by rw [List.mem_cons]; rintro (q | q) <;> contradiction)]
        simp only [List.getD_eq_getElem?_getD, List.getElem?_set, if_neg e]
/-- the greatest that is left is the next in the order -/
theorem gr_next {c : Int} {W : List Int} (hS : 0 < sumN W) {m : Nat} (hm : m < (restA c.natAbs (sumN W) W).toNat) (hmR : m < (W.map (rA c.natAbs (sumN W))).length) :
    grF (zeroR (W.map (rA c.natAbs (sumN W))) ((ordA (W.map (rA c.natAbs (sumN W)))).take m)) (W.map (rA c.natAbs (sumN W))).length = (ordA (W.map (rA c.natAbs (sumN W)))).getD m 0 := by
  have hpos : 0 < (W.map (rA c.natAbs (sumN W))).getD ((ordA (W.map (rA c.natAbs (sumN W)))).getD m 0).toNat 0 := by
    refine bump_pos hS ?_
    rw [getD_at (by rw [ordA_len]; exact hmR), List.mem_take_iff_getElem]
    exact ⟨m, by rw [ordA_len]; omega, rfl⟩
  obtain ⟨R, hR⟩ : ∃ R, (W.map (rA c.natAbs (sumN W))) = R := ⟨_, rfl⟩
  rw [hR] at hmR hpos ⊢
  have hin := ord_in hmR
  have hml : m < (ordA R).length := by rw [ordA_len]; exact hmR
  have hx : (ordA R).getD m 0 = (ordA R)[m] := getD_at hml
  have hnd := ordA_nodup R
  have hpw := (ordA_ok R).2
  have hsplit : ordA R = (ordA R).take m ++ (ordA R)[m] :: (ordA R).drop (m + 1) := by rw [← List.drop_eq_getElem_cons hml, List.take_append_drop]
  have h0 : ∀ x ∈ (ordA R).take m, 0 ≤ x := fun x h => (ordA_mem (List.mem_of_mem_take h)).1
  have hni : (ordA R)[m] ∉ (ordA R).take m := by
    rw [hsplit] at hnd
    intro q
    exact (List.nodup_append.1 hnd).2.2 _ q _ List.mem_cons_self rfl
  obtain ⟨x, hxx⟩ : ∃ x, (ordA R)[m] = x := ⟨_, rfl⟩
  rw [hx, hxx] at hpos hin ⊢
  rw [hxx] at hni hsplit
  have hv : ∀ j : Nat, (zeroR R ((ordA R).take m)).getD j 0 = if (j : Int) ∈ (ordA R).take m then 0 else R.getD j 0 := zero_val h0
  have hvx : (zeroR R ((ordA R).take m)).getD x.toNat 0 = R.getD x.toNat 0 := by
    rw [hv, if_neg]; rw [Int.toNat_of_nonneg hin.1]; exact hni
  have hle : ∀ j : Nat, (j : Int) ∉ (ordA R).take m → j < R.length → ¬ ltA R j x := fun j hj hjl => by
    have hmem : (j : Int) ∈ ordA R := (ordA_ok R).1.mem_iff.2 (mem_iota.2 (by omega))
    rw [hsplit] at hpw hmem
    rcases List.mem_append.1 hmem with q | q
    · exact absurd q hj
    · rcases List.mem_cons.1 q with q | q
      · rw [q]; unfold ltA; omega
      · exact (List.pairwise_cons.1 (List.pairwise_append.1 hpw).2.1).1 _ q
  have hbig : ∀ j : Nat, R.length ≤ j → R.getD j 0 = 0 := fun j hj => by rw [List.getD_eq_getElem?_getD, List.getElem?_eq_none hj]; rfl
  have e1 : R.length = x.toNat + 1 + (R.length - x.toNat - 1) := by omega
  rw [e1, grF_at (i := x.toNat) (by rw [hvx]; exact hpos) (fun j hj => ?_) (fun j => ?_)]
  · omega
  · rw [hvx, hv]
    split
    · exact hpos
    · rename_i q
      have := hle j q (by omega)
      unfold ltA at this
      rw [Int.toNat_natCast] at this
      omega
  · rw [hvx, hv]
    split
    · omega
    · rename_i q
      by_cases hjl : j < R.length
      · have := hle j q hjl
        unfold ltA at this
        rw [Int.toNat_natCast] at this
        omega
      · rw [hbig j (by omega)]; omega
theorem natI {n : Nat} (h : n ≤ 9223372036854775807) : -9223372036854775808 ≤ (n : Int) ∧ (n : Int) ≤ 9223372036854775807 := by omega
theorem app_take {f : Int → Int} {W : List Int} {k : Nat} (h : k < W.length) : List.take k (List.drop 0 (List.map f (List.take k W))) ++ [f W[k]] = List.map f (List.take (k + 1) W) := by
  rw [List.drop_zero, List.take_of_length_le (by simp; omega), List.take_succ_eq_append_getElem h, List.map_append]; rfl
theorem part_okI {x s : Nat} {w : Int} (hx : x < s) (hs : s ≤ 64000000000) (hw : 0 ≤ w ∧ w ≤ 1000000000) : Ct Try.prog 44 [.raw (.int .i64 (x : Nat)), .raw (.int .i64 w), .raw (.int .i64 (s : Nat))] (.tup2 (.raw (.int .i64 ((x * w.toNat / s) : Nat))) (.raw (.int .i64 ((x * w.toNat % s) : Nat)))) := by
  obtain ⟨v, rfl⟩ : ∃ v : Nat, w = (v : Int) := ⟨w.toNat, by omega⟩
  exact part_ok x v s hx hs (by omega)

theorem rallocate_ok (c : Int) (W : List Int) (hlen : W.length ≤ 80) : Ct Try.prog 31 [.raw (.int .i64 c), .tv (rSlice (rInt .i64)) W] (svLI (allocR c W)) := by
  refine ct_intro Try.func31 rfl rfl Try.ntmps31 rfl rfl ?_
  intro w0 ok0
  refine j_len 1 rfl (fun hl0 => ?_)
  refine j_seq ?_
  refine j_region ?_
  refine jg_adr _ rfl _ rfl rfl (op_assign (.base rfl)) ?_
  refine jg_adr _ rfl _ rfl rfl (op_assign (.base rfl)) ?_
  refine jg_nil ?_
  refine jn_keep [0, 1] [] (.cons rfl (.cons rfl .nil)) .nil ?_
  refine jn_seq (j_seq (j_seq ?_))
  refine j_region ?_
  refine jg_adr _ rfl _ rfl rfl (op_move (.base rfl)) ?_
  refine jg_adr _ rfl _ rfl rfl (op_call (rbeyond_ok _ _ (by omega)) (.cons (.base rfl) (.cons (.base rfl) .nil)) rfl rfl) ?_
  refine jg_nil ?_
  refine jn_keep [0, 1, 18] [] (.cons rfl (.cons rfl (.cons rfl .nil))) .nil ?_
  refine jn_seq ?_
  refine j_cond rfl (fun h1 => ?_) (fun h1 => ?_)
  · skip
    refine j_seq ?_
    refine j_region ?_
    refine jg_adr _ rfl _ rfl rfl (op_assign (.base rfl)) ?_
    refine jg_adr _ rfl _ rfl rfl (op_assign (.base rfl)) ?_
    refine jg_nil ?_
    refine jn_keep [4, 5] [] (.cons rfl (.cons rfl .nil)) .nil ?_
    refine jn_seq (j_ret (jr_seq ?_))
    exact jr_fin2 Try.results31 (res_nil rfl) (res_tmp rfl) ⟨rfl, rfl⟩ (svLI_eq (by unfold allocR; rw [if_pos h1]))
  · have k1 := byd_f h1
    refine j_skip (jn_seq (j_seq ?_))
    refine j_region ?_
    refine jg_adr _ rfl _ rfl rfl (op_assign (.base rfl)) ?_
    refine jg_nil ?_
    refine jn_keep [0, 1, 6] [] (.cons rfl (.cons rfl (.cons rfl .nil))) .nil ?_
    refine jn_seq (j_seq (j_seq ?_))
    refine j_region ?_
    refine jg_adr _ rfl _ rfl rfl (op_assign (.base rfl)) ?_
    refine jg_nil ?_
    refine jn_keep [0, 1, 6, 7] [] (.cons rfl (.cons rfl (.cons rfl (.cons rfl .nil)))) .nil ?_
    refine jn_seq (j_block ?_)
    refine j_loopp (ι := Nat) (fun k => ⟨[(0, .raw (.int .i64 (c))), (1, .tv (rSlice (rInt .i64)) W), (6, .raw (.int .i64 ((sumN (W.take k) : Nat)))), (7, .raw (.int .i64 ((k : Nat))))], []⟩) (fun k => k ≤ W.length ∧ (W.take k).any wBad = false) (fun k => W.length - k) 0 (⟨Nat.zero_le _, rfl⟩) (fun a w hi => (Sub.inv ⟨(by repeat (first | exact SubS_nil | refine SubS_cons rfl (by first | rfl | (simp; done) | assumption) ?_)), (by repeat (first | exact SubH_nil | refine SubH_cons rfl (by first | rfl | (simp; done) | assumption) ?_))⟩ hi)) ?_
    rintro k ⟨p1, p2⟩
    refine j_seq (j_seq ?_)
    refine j_region ?_
    refine jg_adr _ rfl _ rfl rfl (op_move (.base rfl)) ?_
    refine jg_adr _ rfl _ rfl rfl (op_move (.base rfl)) ?_
    refine jg_adr _ rfl _ rfl rfl (op_len Try.underlying22 (.base rfl)) ?_
    refine jg_adr _ rfl _ rfl rfl (op_lss (.base rfl) (.base rfl)) ?_
    refine jg_nil ?_
    refine jn_keep [0, 1, 6, 7, 22] [] (.cons rfl (.cons rfl (.cons rfl (.cons rfl (.cons rfl .nil))))) .nil ?_
    refine jn_seq ?_
    refine j_cond rfl (fun h5 => ?_) (fun h5 => ?_)
    · simp at h5
      have d2 : W[k]?.getD 0 = W[k] := by simp [h5]
      refine j_skip (jn_seq (j_seq (j_block (j_seq (j_seq ?_)))))
      refine j_region ?_
      refine jg_adr _ rfl _ rfl rfl (op_move (.base rfl)) ?_
      refine jg_adr _ rfl _ rfl rfl (op_move (.base rfl)) ?_
      refine jg_adr _ rfl _ rfl rfl (op_index Try.underlying22 ty3 (.base rfl) (.base rfl) rfl (List.getElem?_eq_getElem (by first | omega | (simp; done) | (simp; omega) | (simp at hg; omega)))) ?_
      refine jg_adr _ rfl _ rfl rfl (op_load ty3 (.base rfl)) ?_
      refine jg_adr _ rfl _ rfl rfl (op_lss (.base rfl) (.base rfl)) ?_
      refine jg_adr _ rfl _ rfl rfl (op_move (.base rfl)) ?_
      refine jg_gd _ _ _ _ _ _ rfl rfl rfl rfl rfl (fun hg => op_move (.base rfl)) ?_
      refine jg_gd _ _ _ _ _ _ rfl rfl rfl rfl rfl (fun hg => op_move (.base rfl)) ?_
      refine jg_gd _ _ _ _ _ _ rfl rfl rfl rfl rfl (fun hg => op_index Try.underlying22 ty3 (.gd rfl hg) (.gd rfl hg) rfl (getD_some (z := (0 : Int)) (by first | omega | (simp; done) | (simp; omega) | (simp at hg; omega) | (simp at hg; simp; omega)))) ?_
      refine jg_gd _ _ _ _ _ _ rfl rfl rfl rfl rfl (fun hg => op_load ty3 (.gd rfl hg)) ?_
      refine jg_gd _ _ _ _ _ _ rfl rfl rfl rfl rfl (fun hg => op_gtr (.gd rfl hg) (.base rfl)) ?_
      refine jg_adr _ rfl _ rfl rfl (op_pick_or (.base rfl) (.base rfl) rfl (by intro h; first | (rw [h]; rfl) | (rw [hg, h]; rfl) | (rw [h, hg]; rfl) | simp_all)) ?_
      refine jg_nil ?_
      refine jn_keep [0, 1, 6, 7, 36] [] (.cons rfl (.cons rfl (.cons rfl (.cons rfl (.cons rfl .nil))))) .nil ?_
      refine jn_seq ?_
      refine j_cond rfl (fun h7 => ?_) (fun h7 => ?_)
      · rw [d2] at h7
        refine j_seq ?_
        refine j_region ?_
        refine jg_adr _ rfl _ rfl rfl (op_assign (.base rfl)) ?_
        refine jg_adr _ rfl _ rfl rfl (op_assign (.base rfl)) ?_
        refine jg_nil ?_
        refine jn_keep [4, 5] [] (.cons rfl (.cons rfl .nil)) .nil ?_
        refine jn_seq (j_ret (jr_seq (jr_blk (jr_seq (jr_loop (jr_blk (jr_seq ?_)))))))
        exact jr_fin2 Try.results31 (res_nil rfl) (res_tmp rfl) ⟨rfl, rfl⟩ (svLI_eq (by unfold allocR; rw [if_neg (by rw [h1]; simp), if_pos (List.any_eq_true.2 ⟨_, List.getElem_mem h5, h7⟩)]))
      · rw [d2] at h7
        have hq : (W.take (k + 1)).any wBad = false := by rw [List.take_succ_eq_append_getElem h5, List.any_append, p2]; simpa [wBad] using h7
        have hw := wBad_f (w := W[k]) h7
        have hs := sumN_take W k h5
        have hs2 := sumN_le (W.take (k + 1)) 1000000000 (fun w hw2 => by obtain ⟨j, hj, e⟩ := List.getElem_of_mem hw2; have := wAll hq hj; omega)
        have hs3 : (W.take (k + 1)).length ≤ 1000000000 := by rw [List.length_take]; omega
        refine j_skip (jn_seq ?_)
        refine j_region ?_
        refine jg_adr _ rfl _ rfl rfl (op_move (.base rfl)) ?_
        refine jg_adr _ rfl _ rfl rfl (op_move (.base rfl)) ?_
        refine jg_adr _ rfl _ rfl rfl (op_move (.base rfl)) ?_
        refine jg_adr _ rfl _ rfl rfl (op_index Try.underlying22 ty3 (.base rfl) (.base rfl) rfl (List.getElem?_eq_getElem (by first | omega | (simp; done) | (simp; omega) | (simp at hg; omega)))) ?_
        refine jg_adr _ rfl _ rfl rfl (op_load ty3 (.base rfl)) ?_
        refine jg_adr _ rfl _ rfl rfl (op_add (.base rfl) (.base rfl) (w64e (show _ = ((sumN (W.take (k + 1)) : Nat) : Int) by omega) (by omega))) ?_
        refine jg_adr _ rfl _ rfl rfl (op_assign (.base rfl)) ?_
        refine jg_nil ?_
        refine jn_keep [0, 1, 6, 7] [] (.cons rfl (.cons rfl (.cons rfl (.cons rfl .nil)))) .nil ?_
        refine jn_blk (jn_seq ?_)
        refine j_region ?_
        refine jg_adr _ rfl _ rfl rfl (op_move (.base rfl)) ?_
        refine jg_adr _ rfl _ rfl rfl (op_add (.base rfl) (.base rfl) (w64 (by omega))) ?_
        refine jg_adr _ rfl _ rfl rfl (op_assign (.base rfl)) ?_
        refine jg_nil ?_
        refine jn_keep [0, 1, 6, 7] [] (.cons rfl (.cons rfl (.cons rfl (.cons rfl .nil)))) .nil ?_
        exact jn_loop (fun a w hi => ⟨k + 1, (by first | omega | (simp; omega)), (⟨by omega, hq⟩), (Sub.inv ⟨(by repeat (first | exact SubS_nil | refine SubS_cons rfl (by first | rfl | (simp; done) | assumption) ?_)), (by repeat (first | exact SubH_nil | refine SubH_cons rfl (by first | rfl | (simp; done) | assumption) ?_))⟩ hi)⟩)
    · simp at h5
      obtain rfl : k = W.length := by omega
      have hall : W.any wBad = false := by rw [List.take_length] at p2; exact p2
      refine j_exit (je_seq (je_loop (je_blk (jn_seq (j_seq (j_seq ?_))))))
      rw [List.take_length]
      refine j_region ?_
      refine jg_adr _ rfl _ rfl rfl (op_move (.base rfl)) ?_
      refine jg_adr _ rfl _ rfl rfl (op_len Try.underlying22 (.base rfl)) ?_
      refine jg_adr _ rfl _ rfl rfl (op_gtr (.base rfl) (.base rfl)) ?_
      refine jg_nil ?_
      refine jn_keep [0, 1, 6, 45] [] (.cons rfl (.cons rfl (.cons rfl (.cons rfl .nil)))) .nil ?_
      refine jn_seq ?_
      refine j_cond rfl (fun h10 => ?_) (fun h10 => ?_)
      · simp at h10
        refine j_seq ?_
        refine j_region ?_
        refine jg_adr _ rfl _ rfl rfl (op_assign (.base rfl)) ?_
        refine jg_adr _ rfl _ rfl rfl (op_assign (.base rfl)) ?_
        refine jg_nil ?_
        refine jn_keep [4, 5] [] (.cons rfl (.cons rfl .nil)) .nil ?_
        refine jn_seq (j_ret (jr_seq ?_))
        exact jr_fin2 Try.results31 (res_nil rfl) (res_tmp rfl) ⟨rfl, rfl⟩ (svLI_eq (by unfold allocR; rw [if_neg (by rw [h1]; simp), if_neg (by rw [hall]; simp), if_pos (by omega)]))
      · simp at h10
        have hn : W.length ≤ 64 := by omega
        refine j_skip (jn_seq (j_seq (j_seq ?_)))
        refine j_region ?_
        refine jg_adr _ rfl _ rfl rfl (op_move (.base rfl)) ?_
        refine jg_adr _ rfl _ rfl rfl (op_eql (.base rfl) (.base rfl)) ?_
        refine jg_nil ?_
        refine jn_keep [0, 1, 6, 47] [] (.cons rfl (.cons rfl (.cons rfl (.cons rfl .nil)))) .nil ?_
        refine jn_seq ?_
        refine j_cond rfl (fun h12 => ?_) (fun h12 => ?_)
        · simp at h12
          refine j_seq ?_
          refine j_region ?_
          refine jg_adr _ rfl _ rfl rfl (op_assign (.base rfl)) ?_
          refine jg_adr _ rfl _ rfl rfl (op_assign (.base rfl)) ?_
          refine jg_nil ?_
          refine jn_keep [4, 5] [] (.cons rfl (.cons rfl .nil)) .nil ?_
          refine jn_seq (j_ret (jr_seq ?_))
          exact jr_fin2 Try.results31 (res_nil rfl) (res_tmp rfl) ⟨rfl, rfl⟩ (svLI_eq (by unfold allocR; rw [if_neg (by rw [h1]; simp), if_neg (by rw [hall]; simp), if_neg (by omega), if_pos (by omega)]))
        · simp at h12
          have hS : 0 < sumN W := by omega
          have hW : ∀ w ∈ W, w.toNat ≤ 1000000000 := fun w hw => by obtain ⟨j, hj, e⟩ := List.getElem_of_mem hw; have := wAll hall hj; omega
          have hSle := sumN_le W 1000000000 hW
          have hA : c.natAbs ≤ 1000000000000000 := by omega
          have kr := rest_bounds c.natAbs W hS
          have kqs := qsum_part c.natAbs (sumN W) W
          refine j_skip (jn_seq (j_seq ?_))
          refine j_region ?_
          refine jg_adr _ rfl _ rfl rfl (op_move (.base rfl)) ?_
          refine jg_adr _ rfl _ rfl rfl (op_call (rabs_ok _ (by omega)) (.cons (.base rfl) .nil) rfl rfl) ?_
          refine jg_adr _ rfl _ rfl rfl (op_assign (.base rfl)) ?_
          refine jg_nil ?_
          refine jn_keep [0, 1, 6, 8] [] (.cons rfl (.cons rfl (.cons rfl (.cons rfl .nil)))) .nil ?_
          refine jn_seq (j_seq ?_)
          refine j_region ?_
          refine jg_adr _ rfl _ rfl rfl (op_assign (.base rfl)) ?_
          refine jg_adr _ rfl _ rfl rfl (op_assign (.base rfl)) ?_
          refine jg_nil ?_
          refine jn_keep [0, 1, 6, 8, 9, 10] [] (.cons rfl (.cons rfl (.cons rfl (.cons rfl (.cons rfl (.cons rfl .nil)))))) .nil ?_
          refine jn_seq (j_seq ?_)
          refine j_region ?_
          refine jg_adr _ rfl _ rfl rfl (op_move (.base rfl)) ?_
          refine jg_adr _ rfl _ rfl rfl (op_assign (.base rfl)) ?_
          refine jg_nil ?_
          refine jn_keep [0, 1, 6, 8, 9, 10, 11] [] (.cons rfl (.cons rfl (.cons rfl (.cons rfl (.cons rfl (.cons rfl (.cons rfl .nil))))))) .nil ?_
          refine jn_seq (j_seq (j_seq ?_))
          refine j_region ?_
          refine jg_adr _ rfl _ rfl rfl (op_assign (.base rfl)) ?_
          refine jg_nil ?_
          refine jn_keep [0, 1, 6, 8, 9, 10, 11, 12] [] (.cons rfl (.cons rfl (.cons rfl (.cons rfl (.cons rfl (.cons rfl (.cons rfl (.cons rfl .nil)))))))) .nil ?_
          refine jn_seq (j_block ?_)
          refine j_vac 200 9 (rInt .i64) rfl rfl rfl ?_
          refine j_vac 201 10 (rInt .i64) rfl rfl rfl ?_
          refine j_loopp (ι := Nat) (fun k => ⟨[(0, .raw (.int .i64 (c))), (1, .tv (rSlice (rInt .i64)) W), (6, .raw (.int .i64 (((sumN W) : Nat)))), (8, .raw (.int .i64 ((c.natAbs : Nat)))), (9, .own 200 (rInt .i64).n 0 k), (10, .own 201 (rInt .i64).n 0 k), (11, .raw (.int .i64 ((c.natAbs : Int) - sumI ((W.map (qA c.natAbs (sumN W))).take k)))), (12, .raw (.int .i64 ((k : Nat))))], [(200, ⟨rInt .i64, (W.take k).map (qA c.natAbs (sumN W))⟩), (201, ⟨rInt .i64, (W.take k).map (rA c.natAbs (sumN W))⟩)]⟩) (fun k => k ≤ W.length) (fun k => W.length - k) 0 (Nat.zero_le _) (fun a w hi => (Sub.inv ⟨(by repeat (first | exact SubS_nil | refine SubS_cons rfl (by first | rfl | (simp; done) | assumption | (refine ri ?_; first | omega | (simp [sumI]; done) | (unfold restA; omega)) | (exact congrArg (SV.own 200 (rInt .i64).n 0) (by simp)) | (exact congrArg (SV.own 201 (rInt .i64).n 0) (by simp))) ?_)), (by repeat (first | exact SubH_nil | refine SubH_cons rfl (by first | rfl | exact congrArg (HB.mk _) (rfl) | (simp; done) | assumption) ?_))⟩ hi)) ?_
          rintro k p1
          refine j_seq (j_seq ?_)
          refine j_region ?_
          refine jg_adr _ rfl _ rfl rfl (op_move (.base rfl)) ?_
          refine jg_adr _ rfl _ rfl rfl (op_move (.base rfl)) ?_
          refine jg_adr _ rfl _ rfl rfl (op_len Try.underlying22 (.base rfl)) ?_
          refine jg_adr _ rfl _ rfl rfl (op_lss (.base rfl) (.base rfl)) ?_
          refine jg_nil ?_
          refine jn_keep [0, 1, 6, 8, 9, 10, 11, 12, 54] [200, 201] (.cons rfl (.cons rfl (.cons rfl (.cons rfl (.cons rfl (.cons rfl (.cons rfl (.cons rfl (.cons rfl .nil))))))))) (.cons rfl (.cons rfl .nil)) ?_
          refine jn_seq ?_
          refine j_cond rfl (fun h18 => ?_) (fun h18 => ?_)
          · simp at h18
            have hw := wAll hall h18
            have hwS := sumN_mem (List.getElem_mem h18)
            have kq0 := qA_le c.natAbs (sumN W) W[k] hwS
            have ks0 := sumI_take (W.map (qA c.natAbs (sumN W))) k (by simpa using h18)
            rw [List.getElem_map] at ks0
            have ks1 := kqs (k + 1)
            have kr1 := kr.1
            unfold restA at kr1
            have ks : sumI ((W.map (qA c.natAbs (sumN W))).take (k + 1)) = sumI ((W.map (qA c.natAbs (sumN W))).take k) + ((c.natAbs * W[k].toNat / sumN W : Nat) : Int) := ks0
            have kq : 0 ≤ ((c.natAbs * W[k].toNat / sumN W : Nat) : Int) ∧ ((c.natAbs * W[k].toNat / sumN W : Nat) : Int) ≤ c.natAbs := kq0
            have dq := dv_qr (a := c.natAbs) (x := W[k].toNat) hS
            have kqn : c.natAbs * W[k].toNat / sumN W ≤ c.natAbs := Int.ofNat_le.1 kq.2
            have kp : ((c.natAbs / sumN W * W[k].toNat : Nat) : Int) = ((c.natAbs / sumN W : Nat) : Int) * W[k] := by rw [Int.natCast_mul, Int.toNat_of_nonneg hw.1]
            refine j_skip (jn_seq (j_seq (j_block (j_seq ?_))))
            refine j_draw mo (by kernel_rfl) (
              AS.cons _ _ rfl (ga_adr rfl rfl rfl (op_move (.base rfl))) (
                AS.cons _ _ rfl (ga_adr rfl rfl rfl (op_move (.base rfl))) (
                AS.cons _ _ rfl (ga_adr rfl rfl rfl (op_rem_e (.base rfl) (.base rfl) (by omega) rem_nat)) (
                AS.cons _ _ rfl (ga_adr rfl rfl rfl (op_move (.base rfl))) (
                AS.cons _ _ rfl (ga_adr rfl rfl rfl (op_move (.base rfl))) (
                AS.cons _ _ rfl (ga_adr rfl rfl rfl (op_index Try.underlying22 ty3 (.base rfl) (.base rfl) rfl (List.getElem?_eq_getElem (by first | omega | (simp; done) | (simp; omega) | (simp at hg; omega))))) (
                AS.cons _ _ rfl (ga_adr rfl rfl rfl (op_load ty3 (.base rfl))) (
                AS.cons _ _ rfl (ga_adr rfl rfl rfl (op_move (.base rfl))) (
                AS.cons _ _ rfl (ga_adr rfl rfl rfl (op_call (show Ct Try.prog 44 _ (.tup2 (.raw (.int .i64 ((c.natAbs % sumN W * W[k].toNat / sumN W) : Nat))) (.raw (.int .i64 ((c.natAbs * W[k].toNat % sumN W) : Nat)))) from by rw [← dq.2]; exact part_okI (Nat.mod_lt _ hS) (by omega) hw) (.cons (.base rfl) (.cons (.base rfl) (.cons (.base rfl) .nil))) rfl rfl)) (
                AS.cons _ _ rfl (ga_adr rfl rfl rfl (op_move (.base rfl))) (
                AS.cons _ _ rfl (ga_adr rfl rfl rfl (op_ext20 (.base rfl))) (
                AS.cons _ _ rfl (ga_adr rfl rfl rfl (op_ext21 (.base rfl))) (
                AS.cons _ _ rfl (ga_adr rfl rfl rfl (op_assign (.base rfl))) (
                AS.cons _ _ rfl (ga_adr rfl rfl rfl (op_assign (.base rfl))) (
                AS.nil))))))))))))))) ?_
            refine jn_keep [0, 1, 6, 8, 9, 10, 11, 12, 13, 14] [200, 201] (.cons rfl (.cons rfl (.cons rfl (.cons rfl (.cons rfl (.cons rfl (.cons rfl (.cons rfl (.cons rfl (.cons rfl .nil)))))))))) (.cons rfl (.cons rfl .nil)) ?_
            refine jn_seq (j_seq ?_)
            refine j_draw mo (by kernel_rfl) (
              AS.cons _ _ rfl (ga_adr rfl rfl rfl (op_move (.base rfl))) (
                AS.cons _ _ rfl (ga_adr rfl rfl rfl (op_move (.base rfl))) (
                AS.cons _ _ rfl (ga_adr rfl rfl rfl (op_move (.base rfl))) (
                AS.cons _ _ rfl (ga_adr rfl rfl rfl (op_quo (.base rfl) (.base rfl) (by omega) (quo_natI (by omega)))) (
                AS.cons _ _ rfl (ga_adr rfl rfl rfl (op_move (.base rfl))) (
                AS.cons _ _ rfl (ga_adr rfl rfl rfl (op_move (.base rfl))) (
                AS.cons _ _ rfl (ga_adr rfl rfl rfl (op_index Try.underlying22 ty3 (.base rfl) (.base rfl) rfl (List.getElem?_eq_getElem (by first | omega | (simp; done) | (simp; omega) | (simp at hg; omega))))) (
                AS.cons _ _ rfl (ga_adr rfl rfl rfl (op_load ty3 (.base rfl))) (
                AS.cons _ _ rfl (ga_adr rfl rfl rfl (op_mul (.base rfl) (.base rfl) (w64e kp.symm (natI (Nat.le_trans (Nat.le_trans (by rw [← dq.1]; exact Nat.le_add_right _ _) kqn) (by omega)))))) (
                AS.cons _ _ rfl (ga_adr rfl rfl rfl (op_add (.base rfl) (.base rfl) (toN (add_natI (by rw [Nat.add_comm, dq.1]; exact Nat.le_trans kqn (by omega))) (show _ = c.natAbs * W[k].toNat / sumN W by rw [Nat.add_comm]; exact dq.1)))) (
                AS.cons _ _ rfl (ga_adr rfl rfl rfl (op_assign (.base rfl))) (
                AS.nil)))))))))))) ?_
            refine jn_keep [0, 1, 6, 8, 9, 10, 11, 12, 13, 14] [200, 201] (.cons rfl (.cons rfl (.cons rfl (.cons rfl (.cons rfl (.cons rfl (.cons rfl (.cons rfl (.cons rfl (.cons rfl .nil)))))))))) (.cons rfl (.cons rfl .nil)) ?_
            refine jn_seq (j_seq ?_)
            refine j_region ?_
            refine jg_adr _ rfl _ rfl rfl (op_move (.base rfl)) ?_
            refine jg_adr _ rfl _ rfl rfl (op_move (.base rfl)) ?_
            refine jg_adr _ rfl _ rfl rfl (op_bslice (rt := (rInt .i64)) Try.underlying22 ty3 z3 rfl (.cons (.raw (.base rfl) rfl) .nil) rfl rfl) ?_
            refine jg_os _ rfl (op_append [0, 1, 6, 8, 10, 11, 12, 13, 14] Try.underlying22 ty3 z3 rfl by3 (.base rfl) rfl (by (try simp); try omega) (.tv (.base rfl)) (by unfold maxLen; (try simp); try omega) (by (try simp); try omega) rfl (.cons rfl (.cons rfl (.cons rfl (.cons rfl (.cons rfl (.cons rfl (.cons rfl (.cons rfl (.cons rfl .nil))))))))) rfl) ?_
            refine jg_adr _ rfl _ rfl rfl (op_assign (.base rfl)) ?_
            refine jg_nil ?_
            refine jn_keep [0, 1, 6, 8, 9, 10, 11, 12, 13, 14] [200, 201] (.cons rfl (.cons rfl (.cons rfl (.cons rfl (.cons rfl (.cons rfl (.cons rfl (.cons rfl (.cons rfl (.cons rfl .nil)))))))))) (.cons rfl (.cons rfl .nil)) ?_
            refine jn_seq (j_seq ?_)
            refine j_region ?_
            refine jg_adr _ rfl _ rfl rfl (op_move (.base rfl)) ?_
            refine jg_adr _ rfl _ rfl rfl (op_move (.base rfl)) ?_
            refine jg_adr _ rfl _ rfl rfl (op_bslice (rt := (rInt .i64)) Try.underlying22 ty3 z3 rfl (.cons (.raw (.base rfl) rfl) .nil) rfl rfl) ?_
            refine jg_os _ rfl (op_append [0, 1, 6, 8, 9, 11, 12, 13] Try.underlying22 ty3 z3 rfl by3 (.base rfl) rfl (by (try simp); try omega) (.tv (.base rfl)) (by unfold maxLen; (try simp); try omega) (by (try simp); try omega) rfl (.cons rfl (.cons rfl (.cons rfl (.cons rfl (.cons rfl (.cons rfl (.cons rfl (.cons rfl .nil)))))))) rfl) ?_
            refine jg_adr _ rfl _ rfl rfl (op_assign (.base rfl)) ?_
            refine jg_nil ?_
            refine jn_keep [0, 1, 6, 8, 9, 10, 11, 12, 13] [200, 201] (.cons rfl (.cons rfl (.cons rfl (.cons rfl (.cons rfl (.cons rfl (.cons rfl (.cons rfl (.cons rfl .nil))))))))) (.cons rfl (.cons rfl .nil)) ?_
            refine jn_seq ?_
            refine j_region ?_
            refine jg_adr _ rfl _ rfl rfl (op_move (.base rfl)) ?_
            refine jg_adr _ rfl _ rfl rfl (op_move (.base rfl)) ?_
            refine jg_adr _ rfl _ rfl rfl (op_sub (.base rfl) (.base rfl) (w64e (show _ = (c.natAbs : Int) - sumI ((W.map (qA c.natAbs (sumN W))).take (k + 1)) by omega) (by omega))) ?_
            refine jg_adr _ rfl _ rfl rfl (op_assign (.base rfl)) ?_
            refine jg_nil ?_
            refine jn_keep [0, 1, 6, 8, 9, 10, 11, 12] [200, 201] (.cons rfl (.cons rfl (.cons rfl (.cons rfl (.cons rfl (.cons rfl (.cons rfl (.cons rfl .nil)))))))) (.cons rfl (.cons rfl .nil)) ?_
            refine jn_blk (jn_seq ?_)
            refine j_region ?_
            refine jg_adr _ rfl _ rfl rfl (op_move (.base rfl)) ?_
            refine jg_adr _ rfl _ rfl rfl (op_add (.base rfl) (.base rfl) (w64 (by omega))) ?_
            refine jg_adr _ rfl _ rfl rfl (op_assign (.base rfl)) ?_
            refine jg_nil ?_
            refine jn_keep [0, 1, 6, 8, 9, 10, 11, 12] [200, 201] (.cons rfl (.cons rfl (.cons rfl (.cons rfl (.cons rfl (.cons rfl (.cons rfl (.cons rfl .nil)))))))) (.cons rfl (.cons rfl .nil)) ?_
            exact jn_loop (fun a w hi => ⟨k + 1, (by first | omega | (simp; omega)), (by omega), (Sub.inv ⟨(by repeat (first | exact SubS_nil | refine SubS_cons rfl (by first | rfl | (simp; done) | assumption | (refine ri ?_; first | omega | (simp [sumI]; done) | (unfold restA; omega)) | (exact congrArg (SV.own 200 (rInt .i64).n 0) (by simp)) | (exact congrArg (SV.own 201 (rInt .i64).n 0) (by simp))) ?_)), (by repeat (first | exact SubH_nil | refine SubH_cons rfl (by first | rfl | exact congrArg (HB.mk _) (app_take (f := qA c.natAbs (sumN W)) h18) | exact congrArg (HB.mk _) (app_take (f := rA c.natAbs (sumN W)) h18) | (simp; done) | assumption) ?_))⟩ hi)⟩)
          · simp at h18
            refine j_exit (je_seq (je_loop (je_blk (jn_seq (j_seq (j_block ?_))))))
            obtain rfl : k = W.length := by omega
            rw [List.take_length, List.take_of_length_le (show (W.map (qA c.natAbs (sumN W))).length ≤ W.length by simp)]
            clear p1
            refine j_loopp (ι := Nat) (fun m => ⟨[(0, .raw (.int .i64 (c))), (9, .own 200 (rInt .i64).n 0 W.length), (10, .own 201 (rInt .i64).n 0 W.length), (11, .raw (.int .i64 ((restA c.natAbs (sumN W) W) - (m : Nat))))], [(200, ⟨rInt .i64, bump (W.map (qA c.natAbs (sumN W))) ((ordA (W.map (rA c.natAbs (sumN W)))).take m)⟩), (201, ⟨rInt .i64, zeroR (W.map (rA c.natAbs (sumN W))) ((ordA (W.map (rA c.natAbs (sumN W)))).take m)⟩)]⟩) (fun m => m ≤ (restA c.natAbs (sumN W) W).toNat) (fun m => (restA c.natAbs (sumN W) W).toNat - m) 0 (Nat.zero_le _) (fun a w hi => (Sub.inv ⟨(by repeat (first | exact SubS_nil | refine SubS_cons rfl (by first | rfl | (simp; done) | assumption | (refine ri ?_; first | omega | (simp [sumI]; done) | (unfold restA; omega)) | (exact congrArg (SV.own 200 (rInt .i64).n 0) (by simp)) | (exact congrArg (SV.own 201 (rInt .i64).n 0) (by simp))) ?_)), (by repeat (first | exact SubH_nil | refine SubH_cons rfl (by first | rfl | exact congrArg (HB.mk _) (rfl) | (simp; done) | assumption) ?_))⟩ hi)) ?_
            rintro m p1
            refine j_seq (j_seq ?_)
            refine j_region ?_
            refine jg_adr _ rfl _ rfl rfl (op_move (.base rfl)) ?_
            refine jg_adr _ rfl _ rfl rfl (op_gtr (.base rfl) (.base rfl)) ?_
            refine jg_nil ?_
            refine jn_keep [0, 9, 10, 11, 91] [200, 201] (.cons rfl (.cons rfl (.cons rfl (.cons rfl (.cons rfl .nil))))) (.cons rfl (.cons rfl .nil)) ?_
            refine jn_seq ?_
            refine j_cond rfl (fun h25 => ?_) (fun h25 => ?_)
            · have h25 := of_decide_eq_true h25
              have hm : m < (restA c.natAbs (sumN W) W).toNat := by omega
              have hmR : m < (W.map (rA c.natAbs (sumN W))).length := by rw [List.length_map]; omega
              have hgr := gr_next hS hm hmR
              have ki := ord_in hmR
              have ki3 : ((ordA (W.map (rA c.natAbs (sumN W)))).getD m 0).toNat < W.length := by have := ki.2; rw [List.length_map] at this; omega
              have ki2 : ((ordA (W.map (rA c.natAbs (sumN W)))).getD m 0).toNat < (W.map (qA c.natAbs (sumN W))).length := by rw [List.length_map]; exact ki3
              have ki4 : ((ordA (W.map (rA c.natAbs (sumN W)))).getD m 0).toNat < (W.map (rA c.natAbs (sumN W))).length := by rw [List.length_map]; exact ki3
              have kb := bump_bd (is := (ordA (W.map (rA c.natAbs (sumN W)))).take m) (qget c.natAbs (sumN W) W (fun w hw => sumN_mem hw)) ((ordA (W.map (rA c.natAbs (sumN W)))).getD m 0).toNat
              have kb2 : ((ordA (W.map (rA c.natAbs (sumN W)))).take m).length ≤ 64 := by rw [List.length_take]; omega
              refine j_skip (jn_seq (j_block (j_seq ?_)))
              refine j_region ?_
              refine jg_adr _ rfl _ rfl rfl (op_move (.base rfl)) ?_
              refine jg_adr _ rfl _ rfl rfl (op_callb (show Ct Try.prog 45 [.tv (rSlice (rInt .i64)) (List.take W.length (List.drop 0 (zeroR (W.map (rA c.natAbs (sumN W))) ((ordA (W.map (rA c.natAbs (sumN W)))).take m))))] (.raw (.int .i64 ((ordA (W.map (rA c.natAbs (sumN W)))).getD m 0))) from by rw [List.drop_zero, List.take_of_length_le (by rw [zero_len, List.length_map]; exact Nat.le_refl _), ← hgr]; have hh := greatest_ok (zeroR (W.map (rA c.natAbs (sumN W))) ((ordA (W.map (rA c.natAbs (sumN W)))).take m)); rw [zero_len] at hh; exact hh) (.own (.base rfl) rfl (by first | omega | (simp; try omega)) .nil) flat_raw) ?_
              refine jg_adr _ rfl _ rfl rfl (op_assign (.base rfl)) ?_
              refine jg_nil ?_
              refine jn_keep [0, 9, 10, 11, 15] [200, 201] (.cons rfl (.cons rfl (.cons rfl (.cons rfl (.cons rfl .nil))))) (.cons rfl (.cons rfl .nil)) ?_
              refine jn_seq (j_seq (j_seq ?_))
              refine j_region ?_
              refine jg_adr _ rfl _ rfl rfl (op_move (.base rfl)) ?_
              refine jg_adr _ rfl _ rfl rfl (op_lss (.base rfl) (.base rfl)) ?_
              refine jg_nil ?_
              refine jn_keep [0, 9, 10, 11, 15, 95] [200, 201] (.cons rfl (.cons rfl (.cons rfl (.cons rfl (.cons rfl (.cons rfl .nil)))))) (.cons rfl (.cons rfl .nil)) ?_
              refine jn_seq ?_
              refine j_cond rfl (fun h27 => ?_) (fun h27 => ?_)
              · have := of_decide_eq_true h27; omega
              · skip
                refine j_skip (jn_seq (j_seq ?_))
                refine j_region ?_
                refine jg_adr _ rfl _ rfl rfl (op_move (.base rfl)) ?_
                refine jg_adr _ rfl _ rfl rfl (op_move (.base rfl)) ?_
                refine jg_adr _ rfl _ rfl rfl (op_move (.base rfl)) ?_
                refine jg_adr _ rfl _ rfl rfl (op_move (.base rfl)) ?_
                refine jg_adr _ rfl _ rfl rfl (op_oindex Try.underlying22 ty3 (.base rfl) (.base rfl) (Int.toNat_of_nonneg ki.1).symm (by first | omega | (simp; done) | (simp; omega))) ?_
                refine jg_adr _ rfl _ rfl rfl (op_oload ty3 (.base rfl) rfl (bump_at ki2) (Lens.id _)) ?_
                refine jg_adr _ rfl _ rfl rfl (op_add (.base rfl) (.base rfl) (w64 (by omega))) ?_
                refine jg_adr _ rfl _ rfl rfl (op_oindex Try.underlying22 ty3 (.base rfl) (.base rfl) (Int.toNat_of_nonneg ki.1).symm (by first | omega | (simp; done) | (simp; omega))) ?_
                refine jg_os _ rfl (op_ostore ty3 (.base rfl) rfl (bump_at ki2) (Lens.id _) (.raw (.base rfl) rfl)) ?_
                refine jg_nil ?_
                refine jn_keep [0, 9, 10, 11, 15] [200, 201] (.cons rfl (.cons rfl (.cons rfl (.cons rfl (.cons rfl .nil))))) (.cons rfl (.cons rfl .nil)) ?_
                refine jn_seq (j_seq ?_)
                refine j_region ?_
                refine jg_adr _ rfl _ rfl rfl (op_move (.base rfl)) ?_
                refine jg_adr _ rfl _ rfl rfl (op_move (.base rfl)) ?_
                refine jg_adr _ rfl _ rfl rfl (op_oindex Try.underlying22 ty3 (.base rfl) (.base rfl) (Int.toNat_of_nonneg ki.1).symm (by first | omega | (simp; done) | (simp; omega))) ?_
                refine jg_os _ rfl (op_ostore ty3 (.base rfl) rfl (zero_at ki4) (Lens.id _) (.raw (.base rfl) rfl)) ?_
                refine jg_nil ?_
                refine jn_keep [0, 9, 10, 11] [200, 201] (.cons rfl (.cons rfl (.cons rfl (.cons rfl .nil)))) (.cons rfl (.cons rfl .nil)) ?_
                refine jn_seq ?_
                refine j_region ?_
                refine jg_adr _ rfl _ rfl rfl (op_move (.base rfl)) ?_
                refine jg_adr _ rfl _ rfl rfl (op_sub (.base rfl) (.base rfl) (w64 (by omega))) ?_
                refine jg_adr _ rfl _ rfl rfl (op_assign (.base rfl)) ?_
                refine jg_nil ?_
                refine jn_keep [0, 9, 10, 11] [200, 201] (.cons rfl (.cons rfl (.cons rfl (.cons rfl .nil)))) (.cons rfl (.cons rfl .nil)) ?_
                refine jn_blk ?_
                exact jn_loop (fun a w hi => ⟨m + 1, (by first | omega | (simp; omega)), (by omega), (Sub.inv ⟨(by repeat (first | exact SubS_nil | refine SubS_cons rfl (by first | rfl | (simp; done) | assumption | (refine ri ?_; first | omega | (simp [sumI]; done) | (unfold restA; omega)) | (exact congrArg (SV.own 200 (rInt .i64).n 0) (by simp)) | (exact congrArg (SV.own 201 (rInt .i64).n 0) (by simp))) ?_)), (by repeat (first | exact SubH_nil | refine SubH_cons rfl (by first | rfl | exact congrArg (HB.mk _) ((bump_take hmR).symm) | exact congrArg (HB.mk _) ((zero_take hmR).symm) | (simp; done) | assumption) ?_))⟩ hi)⟩)
            · have h25 := of_decide_eq_false h25
              obtain rfl : m = (restA c.natAbs (sumN W) W).toNat := by omega
              refine j_exit (je_seq (je_loop (je_blk (jn_seq (j_seq (j_seq ?_))))))
              refine j_region ?_
              refine jg_adr _ rfl _ rfl rfl (op_assign (.base rfl)) ?_
              refine jg_nil ?_
              refine jn_keep [0, 9, 16] [200] (.cons rfl (.cons rfl (.cons rfl .nil))) (.cons rfl .nil) ?_
              refine jn_seq (j_block ?_)
              refine j_loopp (ι := Nat) (fun k => ⟨[(0, .raw (.int .i64 (c))), (9, .own 200 (rInt .i64).n 0 W.length), (16, .raw (.int .i64 ((k : Nat))))], [(200, ⟨rInt .i64, negF k (bump (W.map (qA c.natAbs (sumN W))) ((ordA (W.map (rA c.natAbs (sumN W)))).take (restA c.natAbs (sumN W) W).toNat))⟩)]⟩) (fun k => k ≤ W.length ∧ (0 ≤ c → k = 0)) (fun k => W.length - k) 0 (⟨Nat.zero_le _, fun _ => rfl⟩) (fun a w hi => (Sub.inv ⟨(by repeat (first | exact SubS_nil | refine SubS_cons rfl (by first | rfl | (simp; done) | assumption | (refine ri ?_; first | omega | (simp [sumI]; done) | (unfold restA; omega)) | (exact congrArg (SV.own 200 (rInt .i64).n 0) (by simp)) | (exact congrArg (SV.own 201 (rInt .i64).n 0) (by simp))) ?_)), (by repeat (first | exact SubH_nil | refine SubH_cons rfl (by first | rfl | exact congrArg (HB.mk _) ((negF_0 _).symm) | (simp; done) | assumption) ?_))⟩ hi)) ?_
              rintro k ⟨p2, p3⟩
              refine j_seq (j_seq ?_)
              refine j_region ?_
              refine jg_adr _ rfl _ rfl rfl (op_move (.base rfl)) ?_
              refine jg_adr _ rfl _ rfl rfl (op_move (.base rfl)) ?_
              refine jg_adr _ rfl _ rfl rfl (op_len_own Try.underlying22 (.base rfl)) ?_
              refine jg_adr _ rfl _ rfl rfl (op_lss (.base rfl) (.base rfl)) ?_
              refine jg_adr _ rfl _ rfl rfl (op_move (.base rfl)) ?_
              refine jg_gd _ _ _ _ _ _ rfl rfl rfl rfl rfl (fun hg => op_move (.base rfl)) ?_
              refine jg_gd _ _ _ _ _ _ rfl rfl rfl rfl rfl (fun hg => op_lss (.gd rfl hg) (.base rfl)) ?_
              refine jg_adr _ rfl _ rfl rfl (op_pick_and (.base rfl) (.base rfl) rfl (by intro h; first | (rw [h]; rfl) | (rw [hg, h]; rfl) | (rw [h, hg]; rfl) | simp_all)) ?_
              refine jg_nil ?_
              refine jn_keep [0, 9, 16, 116] [200] (.cons rfl (.cons rfl (.cons rfl (.cons rfl .nil)))) (.cons rfl .nil) ?_
              refine jn_seq ?_
              refine j_cond rfl (fun h33 => ?_) (fun h33 => ?_)
              · rw [Bool.and_eq_true, decide_eq_true_eq, decide_eq_true_eq] at h33
                have kl : k < (bump (W.map (qA c.natAbs (sumN W))) ((ordA (W.map (rA c.natAbs (sumN W)))).take (restA c.natAbs (sumN W) W).toNat)).length := by rw [bump_len, List.length_map]; omega
                have kb := bump_bd (is := (ordA (W.map (rA c.natAbs (sumN W)))).take (restA c.natAbs (sumN W) W).toNat) (qget c.natAbs (sumN W) W (fun w hw => sumN_mem hw)) k
                have kb2 : ((ordA (W.map (rA c.natAbs (sumN W)))).take (restA c.natAbs (sumN W) W).toNat).length ≤ 64 := by rw [List.length_take]; omega
                refine j_skip (jn_seq (j_seq (j_block ?_)))
                refine j_region ?_
                refine jg_adr _ rfl _ rfl rfl (op_move (.base rfl)) ?_
                refine jg_adr _ rfl _ rfl rfl (op_move (.base rfl)) ?_
                refine jg_adr _ rfl _ rfl rfl (op_move (.base rfl)) ?_
                refine jg_adr _ rfl _ rfl rfl (op_move (.base rfl)) ?_
                refine jg_adr _ rfl _ rfl rfl (op_oindex Try.underlying22 ty3 (.base rfl) (.base rfl) rfl (by first | omega | (simp; done) | (simp; omega))) ?_
                refine jg_adr _ rfl _ rfl rfl (op_oload ty3 (.base rfl) rfl (negF_at kl) (Lens.id _)) ?_
                refine jg_adr _ rfl _ rfl rfl (op_neg (.base rfl) (w64 (by omega))) ?_
                refine jg_adr _ rfl _ rfl rfl (op_oindex Try.underlying22 ty3 (.base rfl) (.base rfl) rfl (by first | omega | (simp; done) | (simp; omega))) ?_
                refine jg_os _ rfl (op_ostore ty3 (.base rfl) rfl (negF_at kl) (Lens.id _) (.raw (.base rfl) rfl)) ?_
                refine jg_nil ?_
                refine jn_keep [0, 9, 16] [200] (.cons rfl (.cons rfl (.cons rfl .nil))) (.cons rfl .nil) ?_
                refine jn_blk (jn_seq ?_)
                refine j_region ?_
                refine jg_adr _ rfl _ rfl rfl (op_move (.base rfl)) ?_
                refine jg_adr _ rfl _ rfl rfl (op_add (.base rfl) (.base rfl) (w64 (by omega))) ?_
                refine jg_adr _ rfl _ rfl rfl (op_assign (.base rfl)) ?_
                refine jg_nil ?_
                refine jn_keep [0, 9, 16] [200] (.cons rfl (.cons rfl (.cons rfl .nil))) (.cons rfl .nil) ?_
                exact jn_loop (fun a w hi => ⟨k + 1, (by first | omega | (simp; omega)), (⟨by omega, fun q => absurd h33.2 (by omega)⟩), (Sub.inv ⟨(by repeat (first | exact SubS_nil | refine SubS_cons rfl (by first | rfl | (simp; done) | assumption | (refine ri ?_; first | omega | (simp [sumI]; done) | (unfold restA; omega)) | (exact congrArg (SV.own 200 (rInt .i64).n 0) (by simp)) | (exact congrArg (SV.own 201 (rInt .i64).n 0) (by simp))) ?_)), (by repeat (first | exact SubH_nil | refine SubH_cons rfl (by first | rfl | exact congrArg (HB.mk _) (negF_set kl) | (simp; done) | assumption) ?_))⟩ hi)⟩)
              · rw [Bool.and_eq_false_iff, decide_eq_false_iff_not, decide_eq_false_iff_not] at h33
                refine j_exit (je_seq (je_loop (je_blk (jn_seq (j_seq ?_)))))
                refine j_region ?_
                refine jg_adr _ rfl _ rfl rfl (op_move (.base rfl)) ?_
                refine jg_adr _ rfl _ rfl rfl (op_assign (.base rfl)) ?_
                refine jg_adr _ rfl _ rfl rfl (op_assign (.base rfl)) ?_
                refine jg_nil ?_
                refine jn_keep [4, 5] [200] (.cons rfl (.cons rfl .nil)) (.cons rfl .nil) ?_
                refine jn_seq (j_ret ?_)
                refine jr_seal (rt := rInt .i64) 200 4 (dropH 200 _) rfl rfl (by rw [negF_len, bump_len]; simp) (dropH_sub 200 _) (dropH_no 200 _) ?_
                rw [List.drop_zero, List.take_of_length_le (by rw [negF_len, bump_len]; simp)]
                exact jr_fin2 Try.results31 (res_tmp rfl) (res_tmp rfl) ⟨rfl, rfl⟩ (svLI_eq (by
                  unfold allocR
                  rw [if_neg (by rw [h1]; simp), if_neg (by rw [hall]; simp), if_neg (by omega), if_neg (by omega)]
                  by_cases hc : c < 0
                  · have e : k = (bump (W.map (qA c.natAbs (sumN W))) ((ordA (W.map (rA c.natAbs (sumN W)))).take (restA c.natAbs (sumN W) W).toNat)).length := by rw [bump_len, List.length_map]; omega
                    rw [if_pos hc, ← negF_n, ← e]
                  · rw [if_neg hc, p3 (by omega), negF_0]))

end Go.Proofs.Ytfmoolclokffjaa
