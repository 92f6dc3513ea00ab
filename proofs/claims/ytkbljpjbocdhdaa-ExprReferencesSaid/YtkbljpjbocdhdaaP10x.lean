import Derived.Test.YtkbljpjbocdhdaaP10w
import Derived.Test.YtkbljpjbocdhdaaEng14
namespace Go.Proofs.Ytkbljpjbocdhdaa
open Go.Eng
set_option maxRecDepth 100000
set_option maxHeartbeats 4000000
set_option linter.unusedVariables false
set_option linter.unusedSimpArgs false


def refs (p : Int → Bool) (l : List TNode) : List Int := (l.filter (fun d => p d.1)).map (·.2)
def pIn (op : Int) : Bool := op == 7
def pDef (op : Int) : Bool := op == 8
def pMem (op : Int) : Bool := decide (36 ≤ op ∧ op ≤ 39)
theorem refs_t {p : Int → Bool} {e : List TNode} {k : Nat} (hk : k < e.length) (h : p e[k].1 = true) : refs p (e.take (k + 1)) = refs p (e.take k) ++ [e[k].2] := by
  rw [← List.take_append_getElem hk, refs, List.filter_append, List.map_append]; simp [refs, h]
theorem refs_f {p : Int → Bool} {e : List TNode} {k : Nat} (hk : k < e.length) (h : p e[k].1 = false) : refs p (e.take (k + 1)) = refs p (e.take k) := by
  rw [← List.take_append_getElem hk, refs, List.filter_append, List.map_append]; simp [refs, h]
theorem refs_len {p : Int → Bool} {l : List TNode} : (refs p l).length ≤ l.length := by
  simp only [refs, List.length_map]; exact List.length_filter_le _ _
theorem dst_take (zs : List Int) : (dstZ zs).take (uniqS zs).length = uniqS zs := List.take_left' rfl
theorem dst_len (zs : List Int) : (dstZ zs).length = zs.length := turn_distinct.len zs
theorem ins_t {p : Int → Bool} {e : List TNode} {k : Nat} (hk : k < e.length) (h : p e[k].1 = true) : insU e[k].2 (uniqS (refs p (e.take k))) = uniqS (refs p (e.take (k + 1))) := by rw [insU_uniqS, refs_t hk h]
theorem uniqS_nil : uniqS [] = [] := List.length_eq_zero_iff.1 (by have := uniqS_len []; simpa using this)
def sv3s (a b c : List Int) : SV := .tup3 (.tv (rSlice (rInt .i64)) a) (.tv (rSlice (rInt .i64)) b) (.tv (rSlice (rInt .i64)) c)

theorem refs_ok (e : List TNode) (hm : e.length ≤ 1000) : Ct Try.prog 19 [.tv (rSlice rNode) e] (sv3s (uniqS (refs pIn e)) (uniqS (refs pDef e)) (uniqS (refs pMem e))) := by
  refine ct_intro Try.func19 rfl rfl Try.ntmps19 rfl rfl ?_
  intro w0 ok0
  refine j_seq ?_
  refine j_region ?_
  refine jg_adr _ rfl _ rfl rfl (op_assign (.base rfl)) ?_
  refine jg_adr _ rfl _ rfl rfl (op_assign (.base rfl)) ?_
  refine jg_adr _ rfl _ rfl rfl (op_assign (.base rfl)) ?_
  refine jg_nil ?_
  refine jn_keep [0] [] (.cons rfl .nil) .nil ?_
  refine jn_seq (j_seq ?_)
  refine j_region ?_
  refine jg_adr _ rfl _ rfl rfl (op_assign (.base rfl)) ?_
  refine jg_adr _ rfl _ rfl rfl (op_assign (.base rfl)) ?_
  refine jg_adr _ rfl _ rfl rfl (op_assign (.base rfl)) ?_
  refine jg_nil ?_
  refine jn_keep [0, 5, 6, 7] [] (.cons rfl (.cons rfl (.cons rfl (.cons rfl .nil)))) .nil ?_
  refine jn_seq (j_seq (j_seq ?_))
  refine j_region ?_
  refine jg_adr _ rfl _ rfl rfl (op_move (.base rfl)) ?_
  refine jg_adr _ rfl _ rfl rfl (op_len Try.underlying22 (.base rfl)) ?_
  refine jg_adr _ rfl _ rfl rfl (op_move (.base rfl)) ?_
  refine jg_nil ?_
  refine jn_keep [5, 6, 7, 10, 11, 12] [] (.cons rfl (.cons rfl (.cons rfl (.cons rfl (.cons rfl (.cons rfl .nil)))))) .nil ?_
  refine jn_seq (j_block ?_)
  refine j_vac 70 5 (rInt .i64) rfl rfl rfl ?_
  refine j_vac 71 6 (rInt .i64) rfl rfl rfl ?_
  refine j_vac 72 7 (rInt .i64) rfl rfl rfl ?_
  refine j_loopp (ι := Nat) (fun k => ⟨[(5, .own 70 (rInt .i64).n 0 (refs pIn (e.take k)).length), (6, .own 71 (rInt .i64).n 0 (refs pDef (e.take k)).length), (7, .own 72 (rInt .i64).n 0 (refs pMem (e.take k)).length), (10, .tv (rSlice rNode) e), (11, .raw (.int .i64 (e.length))), (12, .raw (.int .i64 ((k : Nat))))], [(70, ⟨rInt .i64, (refs pIn (e.take k))⟩), (71, ⟨rInt .i64, (refs pDef (e.take k))⟩), (72, ⟨rInt .i64, (refs pMem (e.take k))⟩)]⟩) (fun k => k ≤ e.length) (fun k => e.length - k) 0 (Nat.zero_le _) (fun a w hi => (Sub.inv ⟨(by repeat (first | exact SubS_nil | refine SubS_cons rfl (by first | rfl | (simp; done) | assumption) ?_)), (by repeat (first | exact SubH_nil | refine SubH_cons rfl (by first | rfl | (simp; done) | assumption) ?_))⟩ hi)) ?_
  rintro k hk
  have l1 := refs_len (p := pIn) (l := e.take k)
  have l2 := refs_len (p := pDef) (l := e.take k)
  have l3 := refs_len (p := pMem) (l := e.take k)
  have l4 : (e.take k).length ≤ k := by simp; omega
  refine j_seq ?_
  refine j_region ?_
  refine jg_adr _ rfl _ rfl rfl (op_lss (.base rfl) (.base rfl)) ?_
  refine jg_nil ?_
  refine jn_keep [5, 6, 7, 10, 11, 12, 13] [70, 71, 72] (.cons rfl (.cons rfl (.cons rfl (.cons rfl (.cons rfl (.cons rfl (.cons rfl .nil))))))) (.cons rfl (.cons rfl (.cons rfl .nil))) ?_
  refine jn_seq (j_seq ?_)
  refine j_cond rfl (fun h3 => ?_) (fun h3 => ?_)
  · try simp at h3
    refine j_skip (jn_seq (j_seq (j_block (j_seq ?_))))
    refine j_region ?_
    refine jg_adr _ rfl _ rfl rfl (op_index Try.underlying22 ty44 (.base rfl) (.base rfl) rfl (List.getElem?_eq_getElem (by first | omega | (simp; done) | (simp; omega) | (simp at hg; omega)))) ?_
    refine jg_adr _ rfl _ rfl rfl (op_load ty44 (.base rfl)) ?_
    refine jg_os _ rfl (op_alloc _ z44 rfl rfl rfl) ?_
    refine jg_os _ rfl (op_ostore ty44 (.base rfl) rfl rfl (Lens.id _) (.tv (.base rfl))) ?_
    refine jg_nil ?_
    refine jn_keep [5, 6, 7, 9, 10, 11, 12] [9, 70, 71, 72] (.cons rfl (.cons rfl (.cons rfl (.cons rfl (.cons rfl (.cons rfl (.cons rfl .nil))))))) (.cons rfl (.cons rfl (.cons rfl (.cons rfl .nil)))) ?_
    refine jn_seq (j_seq ?_)
    refine j_region ?_
    refine jg_adr _ rfl _ rfl rfl (op_ofield fld44_0 (.base rfl)) ?_
    refine jg_adr _ rfl _ rfl rfl (op_oload ty3 (.base rfl) rfl rfl ln44_0) ?_
    refine jg_nil ?_
    refine jn_keep [5, 6, 7, 9, 10, 11, 12, 17] [9, 70, 71, 72] (.cons rfl (.cons rfl (.cons rfl (.cons rfl (.cons rfl (.cons rfl (.cons rfl (.cons rfl .nil)))))))) (.cons rfl (.cons rfl (.cons rfl (.cons rfl .nil)))) ?_
    refine jn_seq (j_block (j_seq ?_))
    refine j_region ?_
    refine jg_adr _ rfl _ rfl rfl (op_eql (.base rfl) (.base rfl)) ?_
    refine jg_adr _ rfl _ rfl rfl (op_assign (.base rfl)) ?_
    refine jg_nil ?_
    refine jn_keep [5, 6, 7, 9, 10, 11, 12, 17, 18] [9, 70, 71, 72] (.cons rfl (.cons rfl (.cons rfl (.cons rfl (.cons rfl (.cons rfl (.cons rfl (.cons rfl (.cons rfl .nil))))))))) (.cons rfl (.cons rfl (.cons rfl (.cons rfl .nil)))) ?_
    refine jn_seq ?_
    refine j_cond rfl (fun h6 => ?_) (fun h6 => ?_)
    · try simp at h6
      refine j_region ?_
      refine jg_adr _ rfl _ rfl rfl (op_move (.base rfl)) ?_
      refine jg_adr _ rfl _ rfl rfl (op_ofield fld44_1 (.base rfl)) ?_
      refine jg_adr _ rfl _ rfl rfl (op_oload ty3 (.base rfl) rfl rfl ln44_1) ?_
      refine jg_adr _ rfl _ rfl rfl (op_bslice (rt := (rInt .i64)) Try.underlying24 ty3 z3 rfl (.cons (.raw (.base rfl) rfl) .nil) rfl rfl) ?_
      refine jg_os _ rfl (op_append [6, 7, 10, 11, 12] Try.underlying24 ty3 z3 rfl by3 (.base rfl) rfl (by simp; try omega) (.tv (.base rfl)) (by unfold maxLen; simp; omega) (by simp; omega) rfl (.cons rfl (.cons rfl (.cons rfl (.cons rfl (.cons rfl .nil))))) rfl) ?_
      refine jg_adr _ rfl _ rfl rfl (op_assign (.base rfl)) ?_
      refine jg_nil ?_
      have hA := refs_t (p := pIn) (e := e) (k := k) (by omega) (by simp [pIn, *]; try omega)
      have hB := refs_f (p := pDef) (e := e) (k := k) (by omega) (by simp [pDef, *]; try omega)
      have hC := refs_f (p := pMem) (e := e) (k := k) (by omega) (by simp [pMem, *]; try omega)
      refine jn_keep [5, 6, 7, 10, 11, 12] [70, 71, 72] (.cons rfl (.cons rfl (.cons rfl (.cons rfl (.cons rfl (.cons rfl .nil)))))) (.cons rfl (.cons rfl (.cons rfl .nil))) ?_
      refine jn_blk (jn_blk (jn_seq ?_))
      refine j_region ?_
      refine jg_adr _ rfl _ rfl rfl (op_add (.base rfl) (.base rfl) (w64 (by omega))) ?_
      refine jg_adr _ rfl _ rfl rfl (op_move (.base rfl)) ?_
      refine jg_nil ?_
      refine jn_keep [5, 6, 7, 10, 11, 12] [70, 71, 72] (.cons rfl (.cons rfl (.cons rfl (.cons rfl (.cons rfl (.cons rfl .nil)))))) (.cons rfl (.cons rfl (.cons rfl .nil))) ?_
      exact jn_loop (fun a w hi => ⟨k + 1, (by omega), (by omega), Sub.inv ⟨(by repeat (first | exact SubS_nil | refine SubS_cons rfl (by first | rfl | exact congrArg (SV.own 70 (rInt .i64).n 0) (by rw [hA]; try simp; try omega) | exact congrArg (SV.own 71 (rInt .i64).n 0) (by rw [hB]; try simp; try omega) | exact congrArg (SV.own 72 (rInt .i64).n 0) (by rw [hC]; try simp; try omega)) ?_)), (by repeat (first | exact SubH_nil | refine SubH_cons rfl (by first | rfl | (refine congrArg (HB.mk (rInt .i64)) ?_; rw [hA]; try (simp only [List.drop_zero, List.take_of_length_le (Nat.le_refl _)]); done) | (refine congrArg (HB.mk (rInt .i64)) ?_; rw [hB]; try (simp only [List.drop_zero, List.take_of_length_le (Nat.le_refl _)]); done) | (refine congrArg (HB.mk (rInt .i64)) ?_; rw [hC]; try (simp only [List.drop_zero, List.take_of_length_le (Nat.le_refl _)]); done)) ?_))⟩ hi⟩)
    · try simp at h6
      refine j_seq ?_
      refine j_region ?_
      refine jg_adr _ rfl _ rfl rfl (op_eql (.base rfl) (.base rfl)) ?_
      refine jg_adr _ rfl _ rfl rfl (op_assign (.base rfl)) ?_
      refine jg_nil ?_
      refine jn_keep [5, 6, 7, 9, 10, 11, 12, 17, 25] [9, 70, 71, 72] (.cons rfl (.cons rfl (.cons rfl (.cons rfl (.cons rfl (.cons rfl (.cons rfl (.cons rfl (.cons rfl .nil))))))))) (.cons rfl (.cons rfl (.cons rfl (.cons rfl .nil)))) ?_
      refine jn_seq ?_
      refine j_cond rfl (fun h8 => ?_) (fun h8 => ?_)
      · try simp at h8
        refine j_region ?_
        refine jg_adr _ rfl _ rfl rfl (op_move (.base rfl)) ?_
        refine jg_adr _ rfl _ rfl rfl (op_ofield fld44_1 (.base rfl)) ?_
        refine jg_adr _ rfl _ rfl rfl (op_oload ty3 (.base rfl) rfl rfl ln44_1) ?_
        refine jg_adr _ rfl _ rfl rfl (op_bslice (rt := (rInt .i64)) Try.underlying24 ty3 z3 rfl (.cons (.raw (.base rfl) rfl) .nil) rfl rfl) ?_
        refine jg_os _ rfl (op_append [5, 7, 10, 11, 12] Try.underlying24 ty3 z3 rfl by3 (.base rfl) rfl (by simp; try omega) (.tv (.base rfl)) (by unfold maxLen; simp; omega) (by simp; omega) rfl (.cons rfl (.cons rfl (.cons rfl (.cons rfl (.cons rfl .nil))))) rfl) ?_
        refine jg_adr _ rfl _ rfl rfl (op_assign (.base rfl)) ?_
        refine jg_nil ?_
        have hA := refs_f (p := pIn) (e := e) (k := k) (by omega) (by simp [pIn, *]; try omega)
        have hB := refs_t (p := pDef) (e := e) (k := k) (by omega) (by simp [pDef, *]; try omega)
        have hC := refs_f (p := pMem) (e := e) (k := k) (by omega) (by simp [pMem, *]; try omega)
        refine jn_keep [5, 6, 7, 10, 11, 12] [70, 71, 72] (.cons rfl (.cons rfl (.cons rfl (.cons rfl (.cons rfl (.cons rfl .nil)))))) (.cons rfl (.cons rfl (.cons rfl .nil))) ?_
        refine jn_blk (jn_blk (jn_seq ?_))
        refine j_region ?_
        refine jg_adr _ rfl _ rfl rfl (op_add (.base rfl) (.base rfl) (w64 (by omega))) ?_
        refine jg_adr _ rfl _ rfl rfl (op_move (.base rfl)) ?_
        refine jg_nil ?_
        refine jn_keep [5, 6, 7, 10, 11, 12] [70, 71, 72] (.cons rfl (.cons rfl (.cons rfl (.cons rfl (.cons rfl (.cons rfl .nil)))))) (.cons rfl (.cons rfl (.cons rfl .nil))) ?_
        exact jn_loop (fun a w hi => ⟨k + 1, (by omega), (by omega), Sub.inv ⟨(by repeat (first | exact SubS_nil | refine SubS_cons rfl (by first | rfl | exact congrArg (SV.own 70 (rInt .i64).n 0) (by rw [hA]; try simp; try omega) | exact congrArg (SV.own 71 (rInt .i64).n 0) (by rw [hB]; try simp; try omega) | exact congrArg (SV.own 72 (rInt .i64).n 0) (by rw [hC]; try simp; try omega)) ?_)), (by repeat (first | exact SubH_nil | refine SubH_cons rfl (by first | rfl | (refine congrArg (HB.mk (rInt .i64)) ?_; rw [hA]; try (simp only [List.drop_zero, List.take_of_length_le (Nat.le_refl _)]); done) | (refine congrArg (HB.mk (rInt .i64)) ?_; rw [hB]; try (simp only [List.drop_zero, List.take_of_length_le (Nat.le_refl _)]); done) | (refine congrArg (HB.mk (rInt .i64)) ?_; rw [hC]; try (simp only [List.drop_zero, List.take_of_length_le (Nat.le_refl _)]); done)) ?_))⟩ hi⟩)
      · try simp at h8
        refine j_seq (j_seq ?_)
        refine j_region ?_
        refine jg_adr _ rfl _ rfl rfl (op_eql (.base rfl) (.base rfl)) ?_
        refine jg_adr _ rfl _ rfl rfl (op_assign (.base rfl)) ?_
        refine jg_nil ?_
        refine jn_keep [5, 6, 7, 9, 10, 11, 12, 17, 32] [9, 70, 71, 72] (.cons rfl (.cons rfl (.cons rfl (.cons rfl (.cons rfl (.cons rfl (.cons rfl (.cons rfl (.cons rfl .nil))))))))) (.cons rfl (.cons rfl (.cons rfl (.cons rfl .nil)))) ?_
        refine jn_seq ?_
        refine j_cond rfl (fun h10 => ?_) (fun h10 => ?_)
        · have g10 := h10; have hq : 36 ≤ e[k].1 ∧ e[k].1 ≤ 39 := by first | omega | (simp at h10; omega)
          refine j_skip (jn_seq ?_)
          refine j_cond_t rfl g10 ?_
          refine j_region ?_
          refine jg_adr _ rfl _ rfl rfl (op_move (.base rfl)) ?_
          refine jg_adr _ rfl _ rfl rfl (op_ofield fld44_1 (.base rfl)) ?_
          refine jg_adr _ rfl _ rfl rfl (op_oload ty3 (.base rfl) rfl rfl ln44_1) ?_
          refine jg_adr _ rfl _ rfl rfl (op_bslice (rt := (rInt .i64)) Try.underlying24 ty3 z3 rfl (.cons (.raw (.base rfl) rfl) .nil) rfl rfl) ?_
          refine jg_os _ rfl (op_append [5, 6, 10, 11, 12] Try.underlying24 ty3 z3 rfl by3 (.base rfl) rfl (by simp; try omega) (.tv (.base rfl)) (by unfold maxLen; simp; omega) (by simp; omega) rfl (.cons rfl (.cons rfl (.cons rfl (.cons rfl (.cons rfl .nil))))) rfl) ?_
          refine jg_adr _ rfl _ rfl rfl (op_assign (.base rfl)) ?_
          refine jg_nil ?_
          have hA := refs_f (p := pIn) (e := e) (k := k) (by omega) (by simp [pIn, *]; try omega)
          have hB := refs_f (p := pDef) (e := e) (k := k) (by omega) (by simp [pDef, *]; try omega)
          have hC := refs_t (p := pMem) (e := e) (k := k) (by omega) (by simp [pMem, *]; try omega)
          refine jn_keep [5, 6, 7, 10, 11, 12] [70, 71, 72] (.cons rfl (.cons rfl (.cons rfl (.cons rfl (.cons rfl (.cons rfl .nil)))))) (.cons rfl (.cons rfl (.cons rfl .nil))) ?_
          refine jn_blk (jn_blk (jn_seq ?_))
          refine j_region ?_
          refine jg_adr _ rfl _ rfl rfl (op_add (.base rfl) (.base rfl) (w64 (by omega))) ?_
          refine jg_adr _ rfl _ rfl rfl (op_move (.base rfl)) ?_
          refine jg_nil ?_
          refine jn_keep [5, 6, 7, 10, 11, 12] [70, 71, 72] (.cons rfl (.cons rfl (.cons rfl (.cons rfl (.cons rfl (.cons rfl .nil)))))) (.cons rfl (.cons rfl (.cons rfl .nil))) ?_
          exact jn_loop (fun a w hi => ⟨k + 1, (by omega), (by omega), Sub.inv ⟨(by repeat (first | exact SubS_nil | refine SubS_cons rfl (by first | rfl | exact congrArg (SV.own 70 (rInt .i64).n 0) (by rw [hA]; try simp; try omega) | exact congrArg (SV.own 71 (rInt .i64).n 0) (by rw [hB]; try simp; try omega) | exact congrArg (SV.own 72 (rInt .i64).n 0) (by rw [hC]; try simp; try omega)) ?_)), (by repeat (first | exact SubH_nil | refine SubH_cons rfl (by first | rfl | (refine congrArg (HB.mk (rInt .i64)) ?_; rw [hA]; try (simp only [List.drop_zero, List.take_of_length_le (Nat.le_refl _)]); done) | (refine congrArg (HB.mk (rInt .i64)) ?_; rw [hB]; try (simp only [List.drop_zero, List.take_of_length_le (Nat.le_refl _)]); done) | (refine congrArg (HB.mk (rInt .i64)) ?_; rw [hC]; try (simp only [List.drop_zero, List.take_of_length_le (Nat.le_refl _)]); done)) ?_))⟩ hi⟩)
        · have g10 := h10; try simp at h10
          refine j_seq ?_
          refine j_region ?_
          refine jg_adr _ rfl _ rfl rfl (op_eql (.base rfl) (.base rfl)) ?_
          refine jg_adr _ rfl _ rfl rfl (op_assign (.base rfl)) ?_
          refine jg_nil ?_
          refine jn_keep [5, 6, 7, 9, 10, 11, 12, 17, 32] [9, 70, 71, 72] (.cons rfl (.cons rfl (.cons rfl (.cons rfl (.cons rfl (.cons rfl (.cons rfl (.cons rfl (.cons rfl .nil))))))))) (.cons rfl (.cons rfl (.cons rfl (.cons rfl .nil)))) ?_
          refine jn_seq ?_
          refine j_cond rfl (fun h11 => ?_) (fun h11 => ?_)
          · have g11 := h11; have hq : 36 ≤ e[k].1 ∧ e[k].1 ≤ 39 := by first | omega | (simp at h11; omega)
            refine j_skip (jn_seq ?_)
            refine j_cond_t rfl g11 ?_
            refine j_region ?_
            refine jg_adr _ rfl _ rfl rfl (op_move (.base rfl)) ?_
            refine jg_adr _ rfl _ rfl rfl (op_ofield fld44_1 (.base rfl)) ?_
            refine jg_adr _ rfl _ rfl rfl (op_oload ty3 (.base rfl) rfl rfl ln44_1) ?_
            refine jg_adr _ rfl _ rfl rfl (op_bslice (rt := (rInt .i64)) Try.underlying24 ty3 z3 rfl (.cons (.raw (.base rfl) rfl) .nil) rfl rfl) ?_
            refine jg_os _ rfl (op_append [5, 6, 10, 11, 12] Try.underlying24 ty3 z3 rfl by3 (.base rfl) rfl (by simp; try omega) (.tv (.base rfl)) (by unfold maxLen; simp; omega) (by simp; omega) rfl (.cons rfl (.cons rfl (.cons rfl (.cons rfl (.cons rfl .nil))))) rfl) ?_
            refine jg_adr _ rfl _ rfl rfl (op_assign (.base rfl)) ?_
            refine jg_nil ?_
            have hA := refs_f (p := pIn) (e := e) (k := k) (by omega) (by simp [pIn, *]; try omega)
            have hB := refs_f (p := pDef) (e := e) (k := k) (by omega) (by simp [pDef, *]; try omega)
            have hC := refs_t (p := pMem) (e := e) (k := k) (by omega) (by simp [pMem, *]; try omega)
            refine jn_keep [5, 6, 7, 10, 11, 12] [70, 71, 72] (.cons rfl (.cons rfl (.cons rfl (.cons rfl (.cons rfl (.cons rfl .nil)))))) (.cons rfl (.cons rfl (.cons rfl .nil))) ?_
            refine jn_blk (jn_blk (jn_seq ?_))
            refine j_region ?_
            refine jg_adr _ rfl _ rfl rfl (op_add (.base rfl) (.base rfl) (w64 (by omega))) ?_
            refine jg_adr _ rfl _ rfl rfl (op_move (.base rfl)) ?_
            refine jg_nil ?_
            refine jn_keep [5, 6, 7, 10, 11, 12] [70, 71, 72] (.cons rfl (.cons rfl (.cons rfl (.cons rfl (.cons rfl (.cons rfl .nil)))))) (.cons rfl (.cons rfl (.cons rfl .nil))) ?_
            exact jn_loop (fun a w hi => ⟨k + 1, (by omega), (by omega), Sub.inv ⟨(by repeat (first | exact SubS_nil | refine SubS_cons rfl (by first | rfl | exact congrArg (SV.own 70 (rInt .i64).n 0) (by rw [hA]; try simp; try omega) | exact congrArg (SV.own 71 (rInt .i64).n 0) (by rw [hB]; try simp; try omega) | exact congrArg (SV.own 72 (rInt .i64).n 0) (by rw [hC]; try simp; try omega)) ?_)), (by repeat (first | exact SubH_nil | refine SubH_cons rfl (by first | rfl | (refine congrArg (HB.mk (rInt .i64)) ?_; rw [hA]; try (simp only [List.drop_zero, List.take_of_length_le (Nat.le_refl _)]); done) | (refine congrArg (HB.mk (rInt .i64)) ?_; rw [hB]; try (simp only [List.drop_zero, List.take_of_length_le (Nat.le_refl _)]); done) | (refine congrArg (HB.mk (rInt .i64)) ?_; rw [hC]; try (simp only [List.drop_zero, List.take_of_length_le (Nat.le_refl _)]); done)) ?_))⟩ hi⟩)
          · have g11 := h11; try simp at h11
            refine j_seq ?_
            refine j_region ?_
            refine jg_adr _ rfl _ rfl rfl (op_eql (.base rfl) (.base rfl)) ?_
            refine jg_adr _ rfl _ rfl rfl (op_assign (.base rfl)) ?_
            refine jg_nil ?_
            refine jn_keep [5, 6, 7, 9, 10, 11, 12, 17, 32] [9, 70, 71, 72] (.cons rfl (.cons rfl (.cons rfl (.cons rfl (.cons rfl (.cons rfl (.cons rfl (.cons rfl (.cons rfl .nil))))))))) (.cons rfl (.cons rfl (.cons rfl (.cons rfl .nil)))) ?_
            refine jn_seq ?_
            refine j_cond rfl (fun h12 => ?_) (fun h12 => ?_)
            · have g12 := h12; have hq : 36 ≤ e[k].1 ∧ e[k].1 ≤ 39 := by first | omega | (simp at h12; omega)
              refine j_skip (jn_seq ?_)
              refine j_cond_t rfl g12 ?_
              refine j_region ?_
              refine jg_adr _ rfl _ rfl rfl (op_move (.base rfl)) ?_
              refine jg_adr _ rfl _ rfl rfl (op_ofield fld44_1 (.base rfl)) ?_
              refine jg_adr _ rfl _ rfl rfl (op_oload ty3 (.base rfl) rfl rfl ln44_1) ?_
              refine jg_adr _ rfl _ rfl rfl (op_bslice (rt := (rInt .i64)) Try.underlying24 ty3 z3 rfl (.cons (.raw (.base rfl) rfl) .nil) rfl rfl) ?_
              refine jg_os _ rfl (op_append [5, 6, 10, 11, 12] Try.underlying24 ty3 z3 rfl by3 (.base rfl) rfl (by simp; try omega) (.tv (.base rfl)) (by unfold maxLen; simp; omega) (by simp; omega) rfl (.cons rfl (.cons rfl (.cons rfl (.cons rfl (.cons rfl .nil))))) rfl) ?_
              refine jg_adr _ rfl _ rfl rfl (op_assign (.base rfl)) ?_
              refine jg_nil ?_
              have hA := refs_f (p := pIn) (e := e) (k := k) (by omega) (by simp [pIn, *]; try omega)
              have hB := refs_f (p := pDef) (e := e) (k := k) (by omega) (by simp [pDef, *]; try omega)
              have hC := refs_t (p := pMem) (e := e) (k := k) (by omega) (by simp [pMem, *]; try omega)
              refine jn_keep [5, 6, 7, 10, 11, 12] [70, 71, 72] (.cons rfl (.cons rfl (.cons rfl (.cons rfl (.cons rfl (.cons rfl .nil)))))) (.cons rfl (.cons rfl (.cons rfl .nil))) ?_
              refine jn_blk (jn_blk (jn_seq ?_))
              refine j_region ?_
              refine jg_adr _ rfl _ rfl rfl (op_add (.base rfl) (.base rfl) (w64 (by omega))) ?_
              refine jg_adr _ rfl _ rfl rfl (op_move (.base rfl)) ?_
              refine jg_nil ?_
              refine jn_keep [5, 6, 7, 10, 11, 12] [70, 71, 72] (.cons rfl (.cons rfl (.cons rfl (.cons rfl (.cons rfl (.cons rfl .nil)))))) (.cons rfl (.cons rfl (.cons rfl .nil))) ?_
              exact jn_loop (fun a w hi => ⟨k + 1, (by omega), (by omega), Sub.inv ⟨(by repeat (first | exact SubS_nil | refine SubS_cons rfl (by first | rfl | exact congrArg (SV.own 70 (rInt .i64).n 0) (by rw [hA]; try simp; try omega) | exact congrArg (SV.own 71 (rInt .i64).n 0) (by rw [hB]; try simp; try omega) | exact congrArg (SV.own 72 (rInt .i64).n 0) (by rw [hC]; try simp; try omega)) ?_)), (by repeat (first | exact SubH_nil | refine SubH_cons rfl (by first | rfl | (refine congrArg (HB.mk (rInt .i64)) ?_; rw [hA]; try (simp only [List.drop_zero, List.take_of_length_le (Nat.le_refl _)]); done) | (refine congrArg (HB.mk (rInt .i64)) ?_; rw [hB]; try (simp only [List.drop_zero, List.take_of_length_le (Nat.le_refl _)]); done) | (refine congrArg (HB.mk (rInt .i64)) ?_; rw [hC]; try (simp only [List.drop_zero, List.take_of_length_le (Nat.le_refl _)]); done)) ?_))⟩ hi⟩)
            · have g12 := h12; try simp at h12
              refine j_region ?_
              refine jg_adr _ rfl _ rfl rfl (op_eql (.base rfl) (.base rfl)) ?_
              refine jg_adr _ rfl _ rfl rfl (op_assign (.base rfl)) ?_
              refine jg_nil ?_
              refine jn_keep [5, 6, 7, 9, 10, 11, 12, 32] [9, 70, 71, 72] (.cons rfl (.cons rfl (.cons rfl (.cons rfl (.cons rfl (.cons rfl (.cons rfl (.cons rfl .nil)))))))) (.cons rfl (.cons rfl (.cons rfl (.cons rfl .nil)))) ?_
              refine jn_seq ?_
              refine j_cond rfl (fun h13 => ?_) (fun h13 => ?_)
              · have g13 := h13; have hq : 36 ≤ e[k].1 ∧ e[k].1 ≤ 39 := by first | omega | (simp at h13; omega)
                refine j_region ?_
                refine jg_adr _ rfl _ rfl rfl (op_move (.base rfl)) ?_
                refine jg_adr _ rfl _ rfl rfl (op_ofield fld44_1 (.base rfl)) ?_
                refine jg_adr _ rfl _ rfl rfl (op_oload ty3 (.base rfl) rfl rfl ln44_1) ?_
                refine jg_adr _ rfl _ rfl rfl (op_bslice (rt := (rInt .i64)) Try.underlying24 ty3 z3 rfl (.cons (.raw (.base rfl) rfl) .nil) rfl rfl) ?_
                refine jg_os _ rfl (op_append [5, 6, 10, 11, 12] Try.underlying24 ty3 z3 rfl by3 (.base rfl) rfl (by simp; try omega) (.tv (.base rfl)) (by unfold maxLen; simp; omega) (by simp; omega) rfl (.cons rfl (.cons rfl (.cons rfl (.cons rfl (.cons rfl .nil))))) rfl) ?_
                refine jg_adr _ rfl _ rfl rfl (op_assign (.base rfl)) ?_
                refine jg_nil ?_
                have hA := refs_f (p := pIn) (e := e) (k := k) (by omega) (by simp [pIn, *]; try omega)
                have hB := refs_f (p := pDef) (e := e) (k := k) (by omega) (by simp [pDef, *]; try omega)
                have hC := refs_t (p := pMem) (e := e) (k := k) (by omega) (by simp [pMem, *]; try omega)
                refine jn_keep [5, 6, 7, 10, 11, 12] [70, 71, 72] (.cons rfl (.cons rfl (.cons rfl (.cons rfl (.cons rfl (.cons rfl .nil)))))) (.cons rfl (.cons rfl (.cons rfl .nil))) ?_
                refine jn_blk (jn_blk (jn_seq ?_))
                refine j_region ?_
                refine jg_adr _ rfl _ rfl rfl (op_add (.base rfl) (.base rfl) (w64 (by omega))) ?_
                refine jg_adr _ rfl _ rfl rfl (op_move (.base rfl)) ?_
                refine jg_nil ?_
                refine jn_keep [5, 6, 7, 10, 11, 12] [70, 71, 72] (.cons rfl (.cons rfl (.cons rfl (.cons rfl (.cons rfl (.cons rfl .nil)))))) (.cons rfl (.cons rfl (.cons rfl .nil))) ?_
                exact jn_loop (fun a w hi => ⟨k + 1, (by omega), (by omega), Sub.inv ⟨(by repeat (first | exact SubS_nil | refine SubS_cons rfl (by first | rfl | exact congrArg (SV.own 70 (rInt .i64).n 0) (by rw [hA]; try simp; try omega) | exact congrArg (SV.own 71 (rInt .i64).n 0) (by rw [hB]; try simp; try omega) | exact congrArg (SV.own 72 (rInt .i64).n 0) (by rw [hC]; try simp; try omega)) ?_)), (by repeat (first | exact SubH_nil | refine SubH_cons rfl (by first | rfl | (refine congrArg (HB.mk (rInt .i64)) ?_; rw [hA]; try (simp only [List.drop_zero, List.take_of_length_le (Nat.le_refl _)]); done) | (refine congrArg (HB.mk (rInt .i64)) ?_; rw [hB]; try (simp only [List.drop_zero, List.take_of_length_le (Nat.le_refl _)]); done) | (refine congrArg (HB.mk (rInt .i64)) ?_; rw [hC]; try (simp only [List.drop_zero, List.take_of_length_le (Nat.le_refl _)]); done)) ?_))⟩ hi⟩)
              · have g13 := h13; simp at h13
                have hA := refs_f (p := pIn) (e := e) (k := k) (by omega) (by simp [pIn, *]; try omega)
                have hB := refs_f (p := pDef) (e := e) (k := k) (by omega) (by simp [pDef, *]; try omega)
                have hC := refs_f (p := pMem) (e := e) (k := k) (by omega) (by simp [pMem, *]; try omega)
                refine j_skip (jn_blk (jn_blk (jn_seq ?_)))
                refine j_region ?_
                refine jg_adr _ rfl _ rfl rfl (op_add (.base rfl) (.base rfl) (w64 (by omega))) ?_
                refine jg_adr _ rfl _ rfl rfl (op_move (.base rfl)) ?_
                refine jg_nil ?_
                refine jn_keep [5, 6, 7, 10, 11, 12] [70, 71, 72] (.cons rfl (.cons rfl (.cons rfl (.cons rfl (.cons rfl (.cons rfl .nil)))))) (.cons rfl (.cons rfl (.cons rfl .nil))) ?_
                exact jn_loop (fun a w hi => ⟨k + 1, (by omega), (by omega), Sub.inv ⟨(by repeat (first | exact SubS_nil | refine SubS_cons rfl (by first | rfl | exact congrArg (SV.own 70 (rInt .i64).n 0) (by rw [hA]; try simp; try omega) | exact congrArg (SV.own 71 (rInt .i64).n 0) (by rw [hB]; try simp; try omega) | exact congrArg (SV.own 72 (rInt .i64).n 0) (by rw [hC]; try simp; try omega)) ?_)), (by repeat (first | exact SubH_nil | refine SubH_cons rfl (by first | rfl | (refine congrArg (HB.mk (rInt .i64)) ?_; rw [hA]; try (simp only [List.drop_zero, List.take_of_length_le (Nat.le_refl _)]); done) | (refine congrArg (HB.mk (rInt .i64)) ?_; rw [hB]; try (simp only [List.drop_zero, List.take_of_length_le (Nat.le_refl _)]); done) | (refine congrArg (HB.mk (rInt .i64)) ?_; rw [hC]; try (simp only [List.drop_zero, List.take_of_length_le (Nat.le_refl _)]); done)) ?_))⟩ hi⟩)
  · try simp at h3
    refine j_exit (je_seq (je_loop (je_blk (jn_seq (j_seq ?_)))))
    have hke : k = e.length := by omega
    subst hke
    have u1 := uniqS_len (refs pIn (e.take e.length))
    have u2 := uniqS_len (refs pDef (e.take e.length))
    have u3 := uniqS_len (refs pMem (e.take e.length))
    refine j_region ?_
    refine jg_adr _ rfl _ rfl rfl (op_move (.base rfl)) ?_
    refine jg_os _ rfl (op_turn1 turn_distinct (.base rfl) rfl (by rfl) (by omega) rfl) ?_
    refine jg_adr _ rfl _ rfl rfl (op_move (.base rfl)) ?_
    refine jg_os _ rfl (op_turn1 turn_distinct (.base rfl) rfl (by rfl) (by omega) rfl) ?_
    refine jg_adr _ rfl _ rfl rfl (op_move (.base rfl)) ?_
    refine jg_os _ rfl (op_turn1 turn_distinct (.base rfl) rfl (by rfl) (by omega) rfl) ?_
    refine jg_adr _ rfl _ rfl rfl (op_assign (.base rfl)) ?_
    refine jg_adr _ rfl _ rfl rfl (op_assign (.base rfl)) ?_
    refine jg_adr _ rfl _ rfl rfl (op_assign (.base rfl)) ?_
    refine jg_nil ?_
    refine jn_keep [2, 3, 4] [70, 71, 72] (.cons rfl (.cons rfl (.cons rfl .nil))) (.cons rfl (.cons rfl (.cons rfl .nil))) ?_
    refine jn_seq (j_ret ?_)
    refine jr_seal (rt := rInt .i64) 70 2 (dropH 70 _) rfl rfl (by rw [dst_len, Nat.zero_add]; exact uniqS_len _) (dropH_sub 70 _) (dropH_no 70 _) ?_
    refine jr_seal (rt := rInt .i64) 71 3 (dropH 71 _) rfl rfl (by rw [dst_len, Nat.zero_add]; exact uniqS_len _) (dropH_sub 71 _) (dropH_no 71 _) ?_
    refine jr_seal (rt := rInt .i64) 72 4 (dropH 72 _) rfl rfl (by rw [dst_len, Nat.zero_add]; exact uniqS_len _) (dropH_sub 72 _) (dropH_no 72 _) ?_
    exact jr_fin3 Try.results19 (res_tmp rfl) (res_tmp rfl) (res_tmp rfl) ⟨rfl, rfl, rfl⟩ (by simp only [List.drop_zero, dst_take, List.take_of_length_le (Nat.le_refl _)]; rfl)

theorem rrefs_ok (e : List TNode) (hm : e.length ≤ 1000) : Ct Try.prog 20 [.tv (rSlice rNode) e] (sv3s (uniqS (refs pIn e)) (uniqS (refs pDef e)) (uniqS (refs pMem e))) := by
  refine ct_intro Try.func20 rfl rfl Try.ntmps20 rfl rfl ?_
  intro w0 ok0
  refine j_seq ?_
  refine j_region ?_
  refine jg_adr _ rfl _ rfl rfl (op_assign (.base rfl)) ?_
  refine jg_adr _ rfl _ rfl rfl (op_assign (.base rfl)) ?_
  refine jg_adr _ rfl _ rfl rfl (op_assign (.base rfl)) ?_
  refine jg_nil ?_
  refine jn_keep [0] [] (.cons rfl .nil) .nil ?_
  refine jn_seq (j_seq ?_)
  refine j_region ?_
  refine jg_adr _ rfl _ rfl rfl (op_assign (.base rfl)) ?_
  refine jg_adr _ rfl _ rfl rfl (op_assign (.base rfl)) ?_
  refine jg_adr _ rfl _ rfl rfl (op_assign (.base rfl)) ?_
  refine jg_nil ?_
  refine jn_keep [0, 5, 6, 7] [] (.cons rfl (.cons rfl (.cons rfl (.cons rfl .nil)))) .nil ?_
  refine jn_seq (j_seq (j_seq ?_))
  refine j_region ?_
  refine jg_adr _ rfl _ rfl rfl (op_assign (.base rfl)) ?_
  refine jg_nil ?_
  refine jn_keep [0, 5, 6, 7, 8] [] (.cons rfl (.cons rfl (.cons rfl (.cons rfl (.cons rfl .nil))))) .nil ?_
  refine jn_seq (j_block ?_)
  refine j_nil 5 (rInt .i64) rfl ?_
  refine j_nil 6 (rInt .i64) rfl ?_
  refine j_nil 7 (rInt .i64) rfl ?_
  refine j_loopp (ι := Nat) (fun k => ⟨[(0, .tv (rSlice rNode) e), (5, .tv (rSlice (rInt .i64)) (uniqS (refs pIn (e.take k)))), (6, .tv (rSlice (rInt .i64)) (uniqS (refs pDef (e.take k)))), (7, .tv (rSlice (rInt .i64)) (uniqS (refs pMem (e.take k)))), (8, .raw (.int .i64 ((k : Nat))))], []⟩) (fun k => k ≤ e.length) (fun k => e.length - k) 0 (Nat.zero_le _) (fun a w hi => (Sub.inv ⟨(by repeat (first | exact SubS_nil | refine SubS_cons rfl (by first | rfl | exact congrArg (SV.tv (rSlice (rInt .i64))) uniqS_nil.symm) ?_)), (by repeat (first | exact SubH_nil | refine SubH_cons rfl (by first | rfl | (simp; done) | assumption) ?_))⟩ hi)) ?_
  rintro k hk
  have l1 := refs_len (p := pIn) (l := e.take k)
  have l2 := refs_len (p := pDef) (l := e.take k)
  have l3 := refs_len (p := pMem) (l := e.take k)
  have l4 : (e.take k).length ≤ k := by simp; omega
  have u1 := uniqS_len (refs pIn (e.take k))
  have u2 := uniqS_len (refs pDef (e.take k))
  have u3 := uniqS_len (refs pMem (e.take k))
  refine j_seq (j_seq ?_)
  refine j_region ?_
  refine jg_adr _ rfl _ rfl rfl (op_move (.base rfl)) ?_
  refine jg_adr _ rfl _ rfl rfl (op_move (.base rfl)) ?_
  refine jg_adr _ rfl _ rfl rfl (op_len Try.underlying22 (.base rfl)) ?_
  refine jg_adr _ rfl _ rfl rfl (op_lss (.base rfl) (.base rfl)) ?_
  refine jg_nil ?_
  refine jn_keep [0, 5, 6, 7, 8, 13] [] (.cons rfl (.cons rfl (.cons rfl (.cons rfl (.cons rfl (.cons rfl .nil)))))) .nil ?_
  refine jn_seq ?_
  refine j_cond rfl (fun h3 => ?_) (fun h3 => ?_)
  · try simp at h3
    refine j_skip (jn_seq (j_seq (j_block (j_seq ?_))))
    refine j_region ?_
    refine jg_adr _ rfl _ rfl rfl (op_move (.base rfl)) ?_
    refine jg_adr _ rfl _ rfl rfl (op_move (.base rfl)) ?_
    refine jg_adr _ rfl _ rfl rfl (op_index Try.underlying22 ty44 (.base rfl) (.base rfl) rfl (List.getElem?_eq_getElem (by first | omega | (simp; done) | (simp; omega) | (simp at hg; omega)))) ?_
    refine jg_adr _ rfl _ rfl rfl (op_field fld44_0 ln44_0 (.base rfl)) ?_
    refine jg_adr _ rfl _ rfl rfl (op_load ty3 (.base rfl)) ?_
    refine jg_adr _ rfl _ rfl rfl (op_assign (.base rfl)) ?_
    refine jg_nil ?_
    refine jn_keep [0, 5, 6, 7, 8, 9] [] (.cons rfl (.cons rfl (.cons rfl (.cons rfl (.cons rfl (.cons rfl .nil)))))) .nil ?_
    refine jn_seq (j_seq (j_seq ?_))
    refine j_region ?_
    refine jg_adr _ rfl _ rfl rfl (op_move (.base rfl)) ?_
    refine jg_adr _ rfl _ rfl rfl (op_eql (.base rfl) (.base rfl)) ?_
    refine jg_nil ?_
    refine jn_keep [0, 5, 6, 7, 8, 9, 22] [] (.cons rfl (.cons rfl (.cons rfl (.cons rfl (.cons rfl (.cons rfl (.cons rfl .nil))))))) .nil ?_
    refine jn_seq ?_
    refine j_cond rfl (fun h6 => ?_) (fun h6 => ?_)
    · simp at h6
      refine j_region ?_
      refine jg_adr _ rfl _ rfl rfl (op_move (.base rfl)) ?_
      refine jg_adr _ rfl _ rfl rfl (op_move (.base rfl)) ?_
      refine jg_adr _ rfl _ rfl rfl (op_move (.base rfl)) ?_
      refine jg_adr _ rfl _ rfl rfl (op_index Try.underlying22 ty44 (.base rfl) (.base rfl) rfl (List.getElem?_eq_getElem (by first | omega | (simp; done) | (simp; omega) | (simp at hg; omega)))) ?_
      refine jg_adr _ rfl _ rfl rfl (op_field fld44_1 ln44_1 (.base rfl)) ?_
      refine jg_adr _ rfl _ rfl rfl (op_load ty3 (.base rfl)) ?_
      refine jg_adr _ rfl _ rfl rfl (op_call (rinsert_ok _ _ (by omega)) (.cons (.base rfl) (.cons (.base rfl) .nil)) rfl rfl) ?_
      refine jg_adr _ rfl _ rfl rfl (op_assign (.base rfl)) ?_
      refine jg_nil ?_
      refine jn_keep [0, 5, 6, 7, 8, 9] [] (.cons rfl (.cons rfl (.cons rfl (.cons rfl (.cons rfl (.cons rfl .nil)))))) .nil ?_
      refine jn_seq (j_seq (j_seq ?_))
      refine j_region ?_
      refine jg_adr _ rfl _ rfl rfl (op_move (.base rfl)) ?_
      refine jg_adr _ rfl _ rfl rfl (op_eql (.base rfl) (.base rfl)) ?_
      refine jg_nil ?_
      refine jn_keep [0, 5, 6, 7, 8, 9, 31] [] (.cons rfl (.cons rfl (.cons rfl (.cons rfl (.cons rfl (.cons rfl (.cons rfl .nil))))))) .nil ?_
      refine jn_seq ?_
      refine j_cond rfl (fun h8 => ?_) (fun h8 => ?_)
      · simp at h8
        refine j_region ?_
        refine jg_adr _ rfl _ rfl rfl (op_move (.base rfl)) ?_
        refine jg_adr _ rfl _ rfl rfl (op_move (.base rfl)) ?_
        refine jg_adr _ rfl _ rfl rfl (op_move (.base rfl)) ?_
        refine jg_adr _ rfl _ rfl rfl (op_index Try.underlying22 ty44 (.base rfl) (.base rfl) rfl (List.getElem?_eq_getElem (by first | omega | (simp; done) | (simp; omega) | (simp at hg; omega)))) ?_
        refine jg_adr _ rfl _ rfl rfl (op_field fld44_1 ln44_1 (.base rfl)) ?_
        refine jg_adr _ rfl _ rfl rfl (op_load ty3 (.base rfl)) ?_
        refine jg_adr _ rfl _ rfl rfl (op_call (rinsert_ok _ _ (by omega)) (.cons (.base rfl) (.cons (.base rfl) .nil)) rfl rfl) ?_
        refine jg_adr _ rfl _ rfl rfl (op_assign (.base rfl)) ?_
        refine jg_nil ?_
        refine jn_keep [0, 5, 6, 7, 8, 9] [] (.cons rfl (.cons rfl (.cons rfl (.cons rfl (.cons rfl (.cons rfl .nil)))))) .nil ?_
        refine jn_seq (j_seq ?_)
        refine j_region ?_
        refine jg_adr _ rfl _ rfl rfl (op_move (.base rfl)) ?_
        refine jg_adr _ rfl _ rfl rfl (op_geq (.base rfl) (.base rfl)) ?_
        refine jg_adr _ rfl _ rfl rfl (op_move (.base rfl)) ?_
        refine jg_gd _ _ _ _ _ _ rfl rfl rfl rfl rfl (fun hg => op_move (.base rfl)) ?_
        refine jg_gd _ _ _ _ _ _ rfl rfl rfl rfl rfl (fun hg => op_leq (.gd rfl hg) (.base rfl)) ?_
        refine jg_adr _ rfl _ rfl rfl (op_pick_and (.base rfl) (.base rfl) rfl (by intro h; first | (rw [h]; rfl) | simp_all)) ?_
        refine jg_nil ?_
        refine jn_keep [0, 5, 6, 7, 8, 44] [] (.cons rfl (.cons rfl (.cons rfl (.cons rfl (.cons rfl (.cons rfl .nil)))))) .nil ?_
        refine jn_seq ?_
        refine j_cond rfl (fun h10 => ?_) (fun h10 => ?_)
        · have hq : 36 ≤ e[k].1 ∧ e[k].1 ≤ 39 := by first | omega | (simp at h10; omega)
          have hA : (if pIn e[k].1 = true then insU e[k].2 (uniqS (refs pIn (e.take k))) else uniqS (refs pIn (e.take k))) = uniqS (refs pIn (e.take (k + 1))) := by split; exact ins_t (by omega) (by assumption); rename_i q; rw [refs_f (by omega) (Bool.eq_false_iff.2 q)]
          have hB : (if pDef e[k].1 = true then insU e[k].2 (uniqS (refs pDef (e.take k))) else uniqS (refs pDef (e.take k))) = uniqS (refs pDef (e.take (k + 1))) := by split; exact ins_t (by omega) (by assumption); rename_i q; rw [refs_f (by omega) (Bool.eq_false_iff.2 q)]
          have hC : (if pMem e[k].1 = true then insU e[k].2 (uniqS (refs pMem (e.take k))) else uniqS (refs pMem (e.take k))) = uniqS (refs pMem (e.take (k + 1))) := by split; exact ins_t (by omega) (by assumption); rename_i q; rw [refs_f (by omega) (Bool.eq_false_iff.2 q)]
          simp [pIn, h6] at hA
          simp [pDef, h8] at hB
          simp [pMem, hq] at hC
          refine j_region ?_
          refine jg_adr _ rfl _ rfl rfl (op_move (.base rfl)) ?_
          refine jg_adr _ rfl _ rfl rfl (op_move (.base rfl)) ?_
          refine jg_adr _ rfl _ rfl rfl (op_move (.base rfl)) ?_
          refine jg_adr _ rfl _ rfl rfl (op_index Try.underlying22 ty44 (.base rfl) (.base rfl) rfl (List.getElem?_eq_getElem (by first | omega | (simp; done) | (simp; omega) | (simp at hg; omega)))) ?_
          refine jg_adr _ rfl _ rfl rfl (op_field fld44_1 ln44_1 (.base rfl)) ?_
          refine jg_adr _ rfl _ rfl rfl (op_load ty3 (.base rfl)) ?_
          refine jg_adr _ rfl _ rfl rfl (op_call (rinsert_ok _ _ (by omega)) (.cons (.base rfl) (.cons (.base rfl) .nil)) rfl rfl) ?_
          refine jg_adr _ rfl _ rfl rfl (op_assign (.base rfl)) ?_
          refine jg_nil ?_
          refine jn_keep [0, 5, 6, 7, 8] [] (.cons rfl (.cons rfl (.cons rfl (.cons rfl (.cons rfl .nil))))) .nil ?_
          refine jn_blk (jn_seq ?_)
          refine j_region ?_
          refine jg_adr _ rfl _ rfl rfl (op_move (.base rfl)) ?_
          refine jg_adr _ rfl _ rfl rfl (op_add (.base rfl) (.base rfl) (w64 (by omega))) ?_
          refine jg_adr _ rfl _ rfl rfl (op_assign (.base rfl)) ?_
          refine jg_nil ?_
          refine jn_keep [0, 5, 6, 7, 8] [] (.cons rfl (.cons rfl (.cons rfl (.cons rfl (.cons rfl .nil))))) .nil ?_
          exact jn_loop (fun a w hi => ⟨k + 1, (by omega), (by omega), Sub.inv ⟨(by repeat (first | exact SubS_nil | refine SubS_cons rfl (by first | rfl | exact congrArg (SV.tv (rSlice (rInt .i64))) hA | exact congrArg (SV.tv (rSlice (rInt .i64))) hA.symm | exact congrArg (SV.tv (rSlice (rInt .i64))) hB | exact congrArg (SV.tv (rSlice (rInt .i64))) hB.symm | exact congrArg (SV.tv (rSlice (rInt .i64))) hC | exact congrArg (SV.tv (rSlice (rInt .i64))) hC.symm) ?_)), (by repeat (first | exact SubH_nil | refine SubH_cons rfl (by first | rfl | (simp; done) | assumption) ?_))⟩ hi⟩)
        · have hq : ¬ (36 ≤ e[k].1 ∧ e[k].1 ≤ 39) := by first | omega | (simp at h10; omega)
          have hA : (if pIn e[k].1 = true then insU e[k].2 (uniqS (refs pIn (e.take k))) else uniqS (refs pIn (e.take k))) = uniqS (refs pIn (e.take (k + 1))) := by split; exact ins_t (by omega) (by assumption); rename_i q; rw [refs_f (by omega) (Bool.eq_false_iff.2 q)]
          have hB : (if pDef e[k].1 = true then insU e[k].2 (uniqS (refs pDef (e.take k))) else uniqS (refs pDef (e.take k))) = uniqS (refs pDef (e.take (k + 1))) := by split; exact ins_t (by omega) (by assumption); rename_i q; rw [refs_f (by omega) (Bool.eq_false_iff.2 q)]
          have hC : (if pMem e[k].1 = true then insU e[k].2 (uniqS (refs pMem (e.take k))) else uniqS (refs pMem (e.take k))) = uniqS (refs pMem (e.take (k + 1))) := by split; exact ins_t (by omega) (by assumption); rename_i q; rw [refs_f (by omega) (Bool.eq_false_iff.2 q)]
          simp [pIn, h6] at hA
          simp [pDef, h8] at hB
          rw [if_neg (by simp [pMem]; omega)] at hC
          refine j_skip (jn_blk (jn_seq ?_))
          refine j_region ?_
          refine jg_adr _ rfl _ rfl rfl (op_move (.base rfl)) ?_
          refine jg_adr _ rfl _ rfl rfl (op_add (.base rfl) (.base rfl) (w64 (by omega))) ?_
          refine jg_adr _ rfl _ rfl rfl (op_assign (.base rfl)) ?_
          refine jg_nil ?_
          refine jn_keep [0, 5, 6, 7, 8] [] (.cons rfl (.cons rfl (.cons rfl (.cons rfl (.cons rfl .nil))))) .nil ?_
          exact jn_loop (fun a w hi => ⟨k + 1, (by omega), (by omega), Sub.inv ⟨(by repeat (first | exact SubS_nil | refine SubS_cons rfl (by first | rfl | exact congrArg (SV.tv (rSlice (rInt .i64))) hA | exact congrArg (SV.tv (rSlice (rInt .i64))) hA.symm | exact congrArg (SV.tv (rSlice (rInt .i64))) hB | exact congrArg (SV.tv (rSlice (rInt .i64))) hB.symm | exact congrArg (SV.tv (rSlice (rInt .i64))) hC | exact congrArg (SV.tv (rSlice (rInt .i64))) hC.symm) ?_)), (by repeat (first | exact SubH_nil | refine SubH_cons rfl (by first | rfl | (simp; done) | assumption) ?_))⟩ hi⟩)
      · simp at h8
        refine j_skip (jn_seq (j_seq ?_))
        refine j_region ?_
        refine jg_adr _ rfl _ rfl rfl (op_move (.base rfl)) ?_
        refine jg_adr _ rfl _ rfl rfl (op_geq (.base rfl) (.base rfl)) ?_
        refine jg_adr _ rfl _ rfl rfl (op_move (.base rfl)) ?_
        refine jg_gd _ _ _ _ _ _ rfl rfl rfl rfl rfl (fun hg => op_move (.base rfl)) ?_
        refine jg_gd _ _ _ _ _ _ rfl rfl rfl rfl rfl (fun hg => op_leq (.gd rfl hg) (.base rfl)) ?_
        refine jg_adr _ rfl _ rfl rfl (op_pick_and (.base rfl) (.base rfl) rfl (by intro h; first | (rw [h]; rfl) | simp_all)) ?_
        refine jg_nil ?_
        refine jn_keep [0, 5, 6, 7, 8, 44] [] (.cons rfl (.cons rfl (.cons rfl (.cons rfl (.cons rfl (.cons rfl .nil)))))) .nil ?_
        refine jn_seq ?_
        refine j_cond rfl (fun h10 => ?_) (fun h10 => ?_)
        · have hq : 36 ≤ e[k].1 ∧ e[k].1 ≤ 39 := by first | omega | (simp at h10; omega)
          have hA : (if pIn e[k].1 = true then insU e[k].2 (uniqS (refs pIn (e.take k))) else uniqS (refs pIn (e.take k))) = uniqS (refs pIn (e.take (k + 1))) := by split; exact ins_t (by omega) (by assumption); rename_i q; rw [refs_f (by omega) (Bool.eq_false_iff.2 q)]
          have hB : (if pDef e[k].1 = true then insU e[k].2 (uniqS (refs pDef (e.take k))) else uniqS (refs pDef (e.take k))) = uniqS (refs pDef (e.take (k + 1))) := by split; exact ins_t (by omega) (by assumption); rename_i q; rw [refs_f (by omega) (Bool.eq_false_iff.2 q)]
          have hC : (if pMem e[k].1 = true then insU e[k].2 (uniqS (refs pMem (e.take k))) else uniqS (refs pMem (e.take k))) = uniqS (refs pMem (e.take (k + 1))) := by split; exact ins_t (by omega) (by assumption); rename_i q; rw [refs_f (by omega) (Bool.eq_false_iff.2 q)]
          simp [pIn, h6] at hA
          simp [pDef, h8] at hB
          simp [pMem, hq] at hC
          refine j_region ?_
          refine jg_adr _ rfl _ rfl rfl (op_move (.base rfl)) ?_
          refine jg_adr _ rfl _ rfl rfl (op_move (.base rfl)) ?_
          refine jg_adr _ rfl _ rfl rfl (op_move (.base rfl)) ?_
          refine jg_adr _ rfl _ rfl rfl (op_index Try.underlying22 ty44 (.base rfl) (.base rfl) rfl (List.getElem?_eq_getElem (by first | omega | (simp; done) | (simp; omega) | (simp at hg; omega)))) ?_
          refine jg_adr _ rfl _ rfl rfl (op_field fld44_1 ln44_1 (.base rfl)) ?_
          refine jg_adr _ rfl _ rfl rfl (op_load ty3 (.base rfl)) ?_
          refine jg_adr _ rfl _ rfl rfl (op_call (rinsert_ok _ _ (by omega)) (.cons (.base rfl) (.cons (.base rfl) .nil)) rfl rfl) ?_
          refine jg_adr _ rfl _ rfl rfl (op_assign (.base rfl)) ?_
          refine jg_nil ?_
          refine jn_keep [0, 5, 6, 7, 8] [] (.cons rfl (.cons rfl (.cons rfl (.cons rfl (.cons rfl .nil))))) .nil ?_
          refine jn_blk (jn_seq ?_)
          refine j_region ?_
          refine jg_adr _ rfl _ rfl rfl (op_move (.base rfl)) ?_
          refine jg_adr _ rfl _ rfl rfl (op_add (.base rfl) (.base rfl) (w64 (by omega))) ?_
          refine jg_adr _ rfl _ rfl rfl (op_assign (.base rfl)) ?_
          refine jg_nil ?_
          refine jn_keep [0, 5, 6, 7, 8] [] (.cons rfl (.cons rfl (.cons rfl (.cons rfl (.cons rfl .nil))))) .nil ?_
          exact jn_loop (fun a w hi => ⟨k + 1, (by omega), (by omega), Sub.inv ⟨(by repeat (first | exact SubS_nil | refine SubS_cons rfl (by first | rfl | exact congrArg (SV.tv (rSlice (rInt .i64))) hA | exact congrArg (SV.tv (rSlice (rInt .i64))) hA.symm | exact congrArg (SV.tv (rSlice (rInt .i64))) hB | exact congrArg (SV.tv (rSlice (rInt .i64))) hB.symm | exact congrArg (SV.tv (rSlice (rInt .i64))) hC | exact congrArg (SV.tv (rSlice (rInt .i64))) hC.symm) ?_)), (by repeat (first | exact SubH_nil | refine SubH_cons rfl (by first | rfl | (simp; done) | assumption) ?_))⟩ hi⟩)
        · have hq : ¬ (36 ≤ e[k].1 ∧ e[k].1 ≤ 39) := by first | omega | (simp at h10; omega)
          have hA : (if pIn e[k].1 = true then insU e[k].2 (uniqS (refs pIn (e.take k))) else uniqS (refs pIn (e.take k))) = uniqS (refs pIn (e.take (k + 1))) := by split; exact ins_t (by omega) (by assumption); rename_i q; rw [refs_f (by omega) (Bool.eq_false_iff.2 q)]
          have hB : (if pDef e[k].1 = true then insU e[k].2 (uniqS (refs pDef (e.take k))) else uniqS (refs pDef (e.take k))) = uniqS (refs pDef (e.take (k + 1))) := by split; exact ins_t (by omega) (by assumption); rename_i q; rw [refs_f (by omega) (Bool.eq_false_iff.2 q)]
          have hC : (if pMem e[k].1 = true then insU e[k].2 (uniqS (refs pMem (e.take k))) else uniqS (refs pMem (e.take k))) = uniqS (refs pMem (e.take (k + 1))) := by split; exact ins_t (by omega) (by assumption); rename_i q; rw [refs_f (by omega) (Bool.eq_false_iff.2 q)]
          simp [pIn, h6] at hA
          simp [pDef, h8] at hB
          rw [if_neg (by simp [pMem]; omega)] at hC
          refine j_skip (jn_blk (jn_seq ?_))
          refine j_region ?_
          refine jg_adr _ rfl _ rfl rfl (op_move (.base rfl)) ?_
          refine jg_adr _ rfl _ rfl rfl (op_add (.base rfl) (.base rfl) (w64 (by omega))) ?_
          refine jg_adr _ rfl _ rfl rfl (op_assign (.base rfl)) ?_
          refine jg_nil ?_
          refine jn_keep [0, 5, 6, 7, 8] [] (.cons rfl (.cons rfl (.cons rfl (.cons rfl (.cons rfl .nil))))) .nil ?_
          exact jn_loop (fun a w hi => ⟨k + 1, (by omega), (by omega), Sub.inv ⟨(by repeat (first | exact SubS_nil | refine SubS_cons rfl (by first | rfl | exact congrArg (SV.tv (rSlice (rInt .i64))) hA | exact congrArg (SV.tv (rSlice (rInt .i64))) hA.symm | exact congrArg (SV.tv (rSlice (rInt .i64))) hB | exact congrArg (SV.tv (rSlice (rInt .i64))) hB.symm | exact congrArg (SV.tv (rSlice (rInt .i64))) hC | exact congrArg (SV.tv (rSlice (rInt .i64))) hC.symm) ?_)), (by repeat (first | exact SubH_nil | refine SubH_cons rfl (by first | rfl | (simp; done) | assumption) ?_))⟩ hi⟩)
    · simp at h6
      refine j_skip (jn_seq (j_seq (j_seq ?_)))
      refine j_region ?_
      refine jg_adr _ rfl _ rfl rfl (op_move (.base rfl)) ?_
      refine jg_adr _ rfl _ rfl rfl (op_eql (.base rfl) (.base rfl)) ?_
      refine jg_nil ?_
      refine jn_keep [0, 5, 6, 7, 8, 9, 31] [] (.cons rfl (.cons rfl (.cons rfl (.cons rfl (.cons rfl (.cons rfl (.cons rfl .nil))))))) .nil ?_
      refine jn_seq ?_
      refine j_cond rfl (fun h8 => ?_) (fun h8 => ?_)
      · simp at h8
        refine j_region ?_
        refine jg_adr _ rfl _ rfl rfl (op_move (.base rfl)) ?_
        refine jg_adr _ rfl _ rfl rfl (op_move (.base rfl)) ?_
        refine jg_adr _ rfl _ rfl rfl (op_move (.base rfl)) ?_
        refine jg_adr _ rfl _ rfl rfl (op_index Try.underlying22 ty44 (.base rfl) (.base rfl) rfl (List.getElem?_eq_getElem (by first | omega | (simp; done) | (simp; omega) | (simp at hg; omega)))) ?_
        refine jg_adr _ rfl _ rfl rfl (op_field fld44_1 ln44_1 (.base rfl)) ?_
        refine jg_adr _ rfl _ rfl rfl (op_load ty3 (.base rfl)) ?_
        refine jg_adr _ rfl _ rfl rfl (op_call (rinsert_ok _ _ (by omega)) (.cons (.base rfl) (.cons (.base rfl) .nil)) rfl rfl) ?_
        refine jg_adr _ rfl _ rfl rfl (op_assign (.base rfl)) ?_
        refine jg_nil ?_
        refine jn_keep [0, 5, 6, 7, 8, 9] [] (.cons rfl (.cons rfl (.cons rfl (.cons rfl (.cons rfl (.cons rfl .nil)))))) .nil ?_
        refine jn_seq (j_seq ?_)
        refine j_region ?_
        refine jg_adr _ rfl _ rfl rfl (op_move (.base rfl)) ?_
        refine jg_adr _ rfl _ rfl rfl (op_geq (.base rfl) (.base rfl)) ?_
        refine jg_adr _ rfl _ rfl rfl (op_move (.base rfl)) ?_
        refine jg_gd _ _ _ _ _ _ rfl rfl rfl rfl rfl (fun hg => op_move (.base rfl)) ?_
        refine jg_gd _ _ _ _ _ _ rfl rfl rfl rfl rfl (fun hg => op_leq (.gd rfl hg) (.base rfl)) ?_
        refine jg_adr _ rfl _ rfl rfl (op_pick_and (.base rfl) (.base rfl) rfl (by intro h; first | (rw [h]; rfl) | simp_all)) ?_
        refine jg_nil ?_
        refine jn_keep [0, 5, 6, 7, 8, 44] [] (.cons rfl (.cons rfl (.cons rfl (.cons rfl (.cons rfl (.cons rfl .nil)))))) .nil ?_
        refine jn_seq ?_
        refine j_cond rfl (fun h10 => ?_) (fun h10 => ?_)
        · have hq : 36 ≤ e[k].1 ∧ e[k].1 ≤ 39 := by first | omega | (simp at h10; omega)
          have hA : (if pIn e[k].1 = true then insU e[k].2 (uniqS (refs pIn (e.take k))) else uniqS (refs pIn (e.take k))) = uniqS (refs pIn (e.take (k + 1))) := by split; exact ins_t (by omega) (by assumption); rename_i q; rw [refs_f (by omega) (Bool.eq_false_iff.2 q)]
          have hB : (if pDef e[k].1 = true then insU e[k].2 (uniqS (refs pDef (e.take k))) else uniqS (refs pDef (e.take k))) = uniqS (refs pDef (e.take (k + 1))) := by split; exact ins_t (by omega) (by assumption); rename_i q; rw [refs_f (by omega) (Bool.eq_false_iff.2 q)]
          have hC : (if pMem e[k].1 = true then insU e[k].2 (uniqS (refs pMem (e.take k))) else uniqS (refs pMem (e.take k))) = uniqS (refs pMem (e.take (k + 1))) := by split; exact ins_t (by omega) (by assumption); rename_i q; rw [refs_f (by omega) (Bool.eq_false_iff.2 q)]
          simp [pIn, h6] at hA
          simp [pDef, h8] at hB
          simp [pMem, hq] at hC
          refine j_region ?_
          refine jg_adr _ rfl _ rfl rfl (op_move (.base rfl)) ?_
          refine jg_adr _ rfl _ rfl rfl (op_move (.base rfl)) ?_
          refine jg_adr _ rfl _ rfl rfl (op_move (.base rfl)) ?_
          refine jg_adr _ rfl _ rfl rfl (op_index Try.underlying22 ty44 (.base rfl) (.base rfl) rfl (List.getElem?_eq_getElem (by first | omega | (simp; done) | (simp; omega) | (simp at hg; omega)))) ?_
          refine jg_adr _ rfl _ rfl rfl (op_field fld44_1 ln44_1 (.base rfl)) ?_
          refine jg_adr _ rfl _ rfl rfl (op_load ty3 (.base rfl)) ?_
          refine jg_adr _ rfl _ rfl rfl (op_call (rinsert_ok _ _ (by omega)) (.cons (.base rfl) (.cons (.base rfl) .nil)) rfl rfl) ?_
          refine jg_adr _ rfl _ rfl rfl (op_assign (.base rfl)) ?_
          refine jg_nil ?_
          refine jn_keep [0, 5, 6, 7, 8] [] (.cons rfl (.cons rfl (.cons rfl (.cons rfl (.cons rfl .nil))))) .nil ?_
          refine jn_blk (jn_seq ?_)
          refine j_region ?_
          refine jg_adr _ rfl _ rfl rfl (op_move (.base rfl)) ?_
          refine jg_adr _ rfl _ rfl rfl (op_add (.base rfl) (.base rfl) (w64 (by omega))) ?_
          refine jg_adr _ rfl _ rfl rfl (op_assign (.base rfl)) ?_
          refine jg_nil ?_
          refine jn_keep [0, 5, 6, 7, 8] [] (.cons rfl (.cons rfl (.cons rfl (.cons rfl (.cons rfl .nil))))) .nil ?_
          exact jn_loop (fun a w hi => ⟨k + 1, (by omega), (by omega), Sub.inv ⟨(by repeat (first | exact SubS_nil | refine SubS_cons rfl (by first | rfl | exact congrArg (SV.tv (rSlice (rInt .i64))) hA | exact congrArg (SV.tv (rSlice (rInt .i64))) hA.symm | exact congrArg (SV.tv (rSlice (rInt .i64))) hB | exact congrArg (SV.tv (rSlice (rInt .i64))) hB.symm | exact congrArg (SV.tv (rSlice (rInt .i64))) hC | exact congrArg (SV.tv (rSlice (rInt .i64))) hC.symm) ?_)), (by repeat (first | exact SubH_nil | refine SubH_cons rfl (by first | rfl | (simp; done) | assumption) ?_))⟩ hi⟩)
        · have hq : ¬ (36 ≤ e[k].1 ∧ e[k].1 ≤ 39) := by first | omega | (simp at h10; omega)
          have hA : (if pIn e[k].1 = true then insU e[k].2 (uniqS (refs pIn (e.take k))) else uniqS (refs pIn (e.take k))) = uniqS (refs pIn (e.take (k + 1))) := by split; exact ins_t (by omega) (by assumption); rename_i q; rw [refs_f (by omega) (Bool.eq_false_iff.2 q)]
          have hB : (if pDef e[k].1 = true then insU e[k].2 (uniqS (refs pDef (e.take k))) else uniqS (refs pDef (e.take k))) = uniqS (refs pDef (e.take (k + 1))) := by split; exact ins_t (by omega) (by assumption); rename_i q; rw [refs_f (by omega) (Bool.eq_false_iff.2 q)]
          have hC : (if pMem e[k].1 = true then insU e[k].2 (uniqS (refs pMem (e.take k))) else uniqS (refs pMem (e.take k))) = uniqS (refs pMem (e.take (k + 1))) := by split; exact ins_t (by omega) (by assumption); rename_i q; rw [refs_f (by omega) (Bool.eq_false_iff.2 q)]
          simp [pIn, h6] at hA
          simp [pDef, h8] at hB
          rw [if_neg (by simp [pMem]; omega)] at hC
          refine j_skip (jn_blk (jn_seq ?_))
          refine j_region ?_
          refine jg_adr _ rfl _ rfl rfl (op_move (.base rfl)) ?_
          refine jg_adr _ rfl _ rfl rfl (op_add (.base rfl) (.base rfl) (w64 (by omega))) ?_
          refine jg_adr _ rfl _ rfl rfl (op_assign (.base rfl)) ?_
          refine jg_nil ?_
          refine jn_keep [0, 5, 6, 7, 8] [] (.cons rfl (.cons rfl (.cons rfl (.cons rfl (.cons rfl .nil))))) .nil ?_
          exact jn_loop (fun a w hi => ⟨k + 1, (by omega), (by omega), Sub.inv ⟨(by repeat (first | exact SubS_nil | refine SubS_cons rfl (by first | rfl | exact congrArg (SV.tv (rSlice (rInt .i64))) hA | exact congrArg (SV.tv (rSlice (rInt .i64))) hA.symm | exact congrArg (SV.tv (rSlice (rInt .i64))) hB | exact congrArg (SV.tv (rSlice (rInt .i64))) hB.symm | exact congrArg (SV.tv (rSlice (rInt .i64))) hC | exact congrArg (SV.tv (rSlice (rInt .i64))) hC.symm) ?_)), (by repeat (first | exact SubH_nil | refine SubH_cons rfl (by first | rfl | (simp; done) | assumption) ?_))⟩ hi⟩)
      · simp at h8
        refine j_skip (jn_seq (j_seq ?_))
        refine j_region ?_
        refine jg_adr _ rfl _ rfl rfl (op_move (.base rfl)) ?_
        refine jg_adr _ rfl _ rfl rfl (op_geq (.base rfl) (.base rfl)) ?_
        refine jg_adr _ rfl _ rfl rfl (op_move (.base rfl)) ?_
        refine jg_gd _ _ _ _ _ _ rfl rfl rfl rfl rfl (fun hg => op_move (.base rfl)) ?_
        refine jg_gd _ _ _ _ _ _ rfl rfl rfl rfl rfl (fun hg => op_leq (.gd rfl hg) (.base rfl)) ?_
        refine jg_adr _ rfl _ rfl rfl (op_pick_and (.base rfl) (.base rfl) rfl (by intro h; first | (rw [h]; rfl) | simp_all)) ?_
        refine jg_nil ?_
        refine jn_keep [0, 5, 6, 7, 8, 44] [] (.cons rfl (.cons rfl (.cons rfl (.cons rfl (.cons rfl (.cons rfl .nil)))))) .nil ?_
        refine jn_seq ?_
        refine j_cond rfl (fun h10 => ?_) (fun h10 => ?_)
        · have hq : 36 ≤ e[k].1 ∧ e[k].1 ≤ 39 := by first | omega | (simp at h10; omega)
          have hA : (if pIn e[k].1 = true then insU e[k].2 (uniqS (refs pIn (e.take k))) else uniqS (refs pIn (e.take k))) = uniqS (refs pIn (e.take (k + 1))) := by split; exact ins_t (by omega) (by assumption); rename_i q; rw [refs_f (by omega) (Bool.eq_false_iff.2 q)]
          have hB : (if pDef e[k].1 = true then insU e[k].2 (uniqS (refs pDef (e.take k))) else uniqS (refs pDef (e.take k))) = uniqS (refs pDef (e.take (k + 1))) := by split; exact ins_t (by omega) (by assumption); rename_i q; rw [refs_f (by omega) (Bool.eq_false_iff.2 q)]
          have hC : (if pMem e[k].1 = true then insU e[k].2 (uniqS (refs pMem (e.take k))) else uniqS (refs pMem (e.take k))) = uniqS (refs pMem (e.take (k + 1))) := by split; exact ins_t (by omega) (by assumption); rename_i q; rw [refs_f (by omega) (Bool.eq_false_iff.2 q)]
          simp [pIn, h6] at hA
          simp [pDef, h8] at hB
          simp [pMem, hq] at hC
          refine j_region ?_
          refine jg_adr _ rfl _ rfl rfl (op_move (.base rfl)) ?_
          refine jg_adr _ rfl _ rfl rfl (op_move (.base rfl)) ?_
          refine jg_adr _ rfl _ rfl rfl (op_move (.base rfl)) ?_
          refine jg_adr _ rfl _ rfl rfl (op_index Try.underlying22 ty44 (.base rfl) (.base rfl) rfl (List.getElem?_eq_getElem (by first | omega | (simp; done) | (simp; omega) | (simp at hg; omega)))) ?_
          refine jg_adr _ rfl _ rfl rfl (op_field fld44_1 ln44_1 (.base rfl)) ?_
          refine jg_adr _ rfl _ rfl rfl (op_load ty3 (.base rfl)) ?_
          refine jg_adr _ rfl _ rfl rfl (op_call (rinsert_ok _ _ (by omega)) (.cons (.base rfl) (.cons (.base rfl) .nil)) rfl rfl) ?_
          refine jg_adr _ rfl _ rfl rfl (op_assign (.base rfl)) ?_
          refine jg_nil ?_
          refine jn_keep [0, 5, 6, 7, 8] [] (.cons rfl (.cons rfl (.cons rfl (.cons rfl (.cons rfl .nil))))) .nil ?_
          refine jn_blk (jn_seq ?_)
          refine j_region ?_
          refine jg_adr _ rfl _ rfl rfl (op_move (.base rfl)) ?_
          refine jg_adr _ rfl _ rfl rfl (op_add (.base rfl) (.base rfl) (w64 (by omega))) ?_
          refine jg_adr _ rfl _ rfl rfl (op_assign (.base rfl)) ?_
          refine jg_nil ?_
          refine jn_keep [0, 5, 6, 7, 8] [] (.cons rfl (.cons rfl (.cons rfl (.cons rfl (.cons rfl .nil))))) .nil ?_
          exact jn_loop (fun a w hi => ⟨k + 1, (by omega), (by omega), Sub.inv ⟨(by repeat (first | exact SubS_nil | refine SubS_cons rfl (by first | rfl | exact congrArg (SV.tv (rSlice (rInt .i64))) hA | exact congrArg (SV.tv (rSlice (rInt .i64))) hA.symm | exact congrArg (SV.tv (rSlice (rInt .i64))) hB | exact congrArg (SV.tv (rSlice (rInt .i64))) hB.symm | exact congrArg (SV.tv (rSlice (rInt .i64))) hC | exact congrArg (SV.tv (rSlice (rInt .i64))) hC.symm) ?_)), (by repeat (first | exact SubH_nil | refine SubH_cons rfl (by first | rfl | (simp; done) | assumption) ?_))⟩ hi⟩)
        · have hq : ¬ (36 ≤ e[k].1 ∧ e[k].1 ≤ 39) := by first | omega | (simp at h10; omega)
          have hA : (if pIn e[k].1 = true then insU e[k].2 (uniqS (refs pIn (e.take k))) else uniqS (refs pIn (e.take k))) = uniqS (refs pIn (e.take (k + 1))) := by split; exact ins_t (by omega) (by assumption); rename_i q; rw [refs_f (by omega) (Bool.eq_false_iff.2 q)]
          have hB : (if pDef e[k].1 = true then insU e[k].2 (uniqS (refs pDef (e.take k))) else uniqS (refs pDef (e.take k))) = uniqS (refs pDef (e.take (k + 1))) := by split; exact ins_t (by omega) (by assumption); rename_i q; rw [refs_f (by omega) (Bool.eq_false_iff.2 q)]
          have hC : (if pMem e[k].1 = true then insU e[k].2 (uniqS (refs pMem (e.take k))) else uniqS (refs pMem (e.take k))) = uniqS (refs pMem (e.take (k + 1))) := by split; exact ins_t (by omega) (by assumption); rename_i q; rw [refs_f (by omega) (Bool.eq_false_iff.2 q)]
          simp [pIn, h6] at hA
          simp [pDef, h8] at hB
          rw [if_neg (by simp [pMem]; omega)] at hC
          refine j_skip (jn_blk (jn_seq ?_))
          refine j_region ?_
          refine jg_adr _ rfl _ rfl rfl (op_move (.base rfl)) ?_
          refine jg_adr _ rfl _ rfl rfl (op_add (.base rfl) (.base rfl) (w64 (by omega))) ?_
          refine jg_adr _ rfl _ rfl rfl (op_assign (.base rfl)) ?_
          refine jg_nil ?_
          refine jn_keep [0, 5, 6, 7, 8] [] (.cons rfl (.cons rfl (.cons rfl (.cons rfl (.cons rfl .nil))))) .nil ?_
          exact jn_loop (fun a w hi => ⟨k + 1, (by omega), (by omega), Sub.inv ⟨(by repeat (first | exact SubS_nil | refine SubS_cons rfl (by first | rfl | exact congrArg (SV.tv (rSlice (rInt .i64))) hA | exact congrArg (SV.tv (rSlice (rInt .i64))) hA.symm | exact congrArg (SV.tv (rSlice (rInt .i64))) hB | exact congrArg (SV.tv (rSlice (rInt .i64))) hB.symm | exact congrArg (SV.tv (rSlice (rInt .i64))) hC | exact congrArg (SV.tv (rSlice (rInt .i64))) hC.symm) ?_)), (by repeat (first | exact SubH_nil | refine SubH_cons rfl (by first | rfl | (simp; done) | assumption) ?_))⟩ hi⟩)
  · try simp at h3
    refine j_exit (je_seq (je_loop (je_blk (jn_seq (j_seq ?_)))))
    have hke : k = e.length := by omega
    subst hke
    refine j_region ?_
    refine jg_adr _ rfl _ rfl rfl (op_move (.base rfl)) ?_
    refine jg_adr _ rfl _ rfl rfl (op_move (.base rfl)) ?_
    refine jg_adr _ rfl _ rfl rfl (op_move (.base rfl)) ?_
    refine jg_adr _ rfl _ rfl rfl (op_assign (.base rfl)) ?_
    refine jg_adr _ rfl _ rfl rfl (op_assign (.base rfl)) ?_
    refine jg_adr _ rfl _ rfl rfl (op_assign (.base rfl)) ?_
    refine jg_nil ?_
    refine jn_keep [2, 3, 4] [] (.cons rfl (.cons rfl (.cons rfl .nil))) .nil ?_
    refine jn_seq (j_ret ?_)
    exact jr_fin3 Try.results20 (res_tmp rfl) (res_tmp rfl) (res_tmp rfl) ⟨rfl, rfl, rfl⟩ (by rw [List.take_of_length_le (Nat.le_refl _)]; rfl)

theorem law_refs (e : List TNode) : Ct Try.prog 7 [.tv (rSlice rNode) e] (.raw (.bool true)) := by
  refine ct_intro Try.func7 rfl rfl Try.ntmps7 rfl rfl ?_
  intro w0 ok0
  refine j_seq ?_
  refine j_region ?_
  refine jg_adr _ rfl _ rfl rfl (op_assign (.base rfl)) ?_
  refine jg_nil ?_
  refine jn_keep [0] [] (.cons rfl .nil) .nil ?_
  refine jn_seq (j_seq (j_seq ?_))
  refine j_region ?_
  refine jg_adr _ rfl _ rfl rfl (op_move (.base rfl)) ?_
  refine jg_adr _ rfl _ rfl rfl (op_len Try.underlying22 (.base rfl)) ?_
  refine jg_adr _ rfl _ rfl rfl (op_gtr (.base rfl) (.base rfl)) ?_
  refine jg_nil ?_
  refine jn_keep [0, 11] [] (.cons rfl (.cons rfl .nil)) .nil ?_
  refine jn_seq ?_
  refine j_cond rfl (fun h1 => ?_) (fun h1 => ?_)
  · try simp at h1
    refine j_seq ?_
    refine j_region ?_
    refine jg_adr _ rfl _ rfl rfl (op_call awake_ok .nil rfl rfl) ?_
    refine jg_adr _ rfl _ rfl rfl (op_assign (.base rfl)) ?_
    refine jg_nil ?_
    refine jn_keep [2] [] (.cons rfl .nil) .nil ?_
    refine jn_seq (j_ret (jr_seq ?_))
    exact jr_fin1 Try.results7 (res_tmp rfl) rfl rfl
  · try simp at h1
    refine j_skip (jn_seq (j_seq ?_))
    refine j_region ?_
    refine jg_adr _ rfl _ rfl rfl (op_move (.base rfl)) ?_
    refine jg_adr _ rfl _ rfl rfl (op_call (refs_ok _ (by omega)) (.cons (.base rfl) .nil) rfl rfl) ?_
    refine jg_adr _ rfl _ rfl rfl (op_move (.base rfl)) ?_
    refine jg_adr _ rfl _ rfl rfl (op_ext30 (.base rfl)) ?_
    refine jg_adr _ rfl _ rfl rfl (op_ext31 (.base rfl)) ?_
    refine jg_adr _ rfl _ rfl rfl (op_ext32 (.base rfl)) ?_
    refine jg_adr _ rfl _ rfl rfl (op_assign (.base rfl)) ?_
    refine jg_adr _ rfl _ rfl rfl (op_assign (.base rfl)) ?_
    refine jg_adr _ rfl _ rfl rfl (op_assign (.base rfl)) ?_
    refine jg_nil ?_
    refine jn_keep [0, 3, 4, 5] [] (.cons rfl (.cons rfl (.cons rfl (.cons rfl .nil)))) .nil ?_
    refine jn_seq (j_seq ?_)
    refine j_region ?_
    refine jg_adr _ rfl _ rfl rfl (op_move (.base rfl)) ?_
    refine jg_adr _ rfl _ rfl rfl (op_call (rrefs_ok _ (by omega)) (.cons (.base rfl) .nil) rfl rfl) ?_
    refine jg_adr _ rfl _ rfl rfl (op_move (.base rfl)) ?_
    refine jg_adr _ rfl _ rfl rfl (op_ext30 (.base rfl)) ?_
    refine jg_adr _ rfl _ rfl rfl (op_ext31 (.base rfl)) ?_
    refine jg_adr _ rfl _ rfl rfl (op_ext32 (.base rfl)) ?_
    refine jg_adr _ rfl _ rfl rfl (op_assign (.base rfl)) ?_
    refine jg_adr _ rfl _ rfl rfl (op_assign (.base rfl)) ?_
    refine jg_adr _ rfl _ rfl rfl (op_assign (.base rfl)) ?_
    refine jg_nil ?_
    refine jn_keep [3, 4, 5, 6, 7, 8] [] (.cons rfl (.cons rfl (.cons rfl (.cons rfl (.cons rfl (.cons rfl .nil)))))) .nil ?_
    refine jn_seq (j_seq ?_)
    refine j_region ?_
    refine jg_adr _ rfl _ rfl rfl (op_move (.base rfl)) ?_
    refine jg_adr _ rfl _ rfl rfl (op_move (.base rfl)) ?_
    refine jg_adr _ rfl _ rfl rfl (op_call (same_ints _ _) (.cons (.base rfl) (.cons (.base rfl) .nil)) rfl rfl) ?_
    refine jg_adr _ rfl _ rfl rfl (op_move (.base rfl)) ?_
    refine jg_gd _ _ _ _ _ _ rfl rfl rfl rfl rfl (fun hg => op_move (.base rfl)) ?_
    refine jg_gd _ _ _ _ _ _ rfl rfl rfl rfl rfl (fun hg => op_move (.base rfl)) ?_
    refine jg_gd _ _ _ _ _ _ rfl rfl rfl rfl rfl (fun hg => op_call (same_ints _ _) (.cons (.gd rfl hg) (.cons (.gd rfl hg) .nil)) rfl rfl) ?_
    refine jg_adr _ rfl _ rfl rfl (op_pick_and (.base rfl) (.base rfl) rfl (by intro h; first | (rw [h]; rfl) | simp_all)) ?_
    refine jg_adr _ rfl _ rfl rfl (op_move (.base rfl)) ?_
    refine jg_gd _ _ _ _ _ _ rfl rfl rfl rfl rfl (fun hg => op_move (.base rfl)) ?_
    refine jg_gd _ _ _ _ _ _ rfl rfl rfl rfl rfl (fun hg => op_move (.base rfl)) ?_
    refine jg_gd _ _ _ _ _ _ rfl rfl rfl rfl rfl (fun hg => op_call (same_ints _ _) (.cons (.gd rfl hg) (.cons (.gd rfl hg) .nil)) rfl rfl) ?_
    refine jg_adr _ rfl _ rfl rfl (op_pick_and (.base rfl) (.base rfl) rfl (by intro h; first | (rw [h]; rfl) | simp_all)) ?_
    refine jg_adr _ rfl _ rfl rfl (op_move (.base rfl)) ?_
    refine jg_gd _ _ _ _ _ _ rfl rfl rfl rfl rfl (fun hg => op_call awake_ok .nil rfl rfl) ?_
    refine jg_adr _ rfl _ rfl rfl (op_pick_and (.base rfl) (.base rfl) rfl (by intro h; first | (rw [h]; rfl) | simp_all)) ?_
    refine jg_adr _ rfl _ rfl rfl (op_assign (.base rfl)) ?_
    refine jg_nil ?_
    refine jn_keep [2] [] (.cons rfl .nil) .nil ?_
    refine jn_seq (j_ret ?_)
    exact jr_fin1 Try.results7 (res_tmp rfl) rfl (rb (by simp))

end Go.Proofs.Ytkbljpjbocdhdaa
