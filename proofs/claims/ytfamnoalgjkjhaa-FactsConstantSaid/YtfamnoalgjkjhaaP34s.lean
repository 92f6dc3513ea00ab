import Derived.Test.YtfamnoalgjkjhaaP34r
namespace Go.Proofs.Ytfamnoalgjkjhaa
open Go.Eng
set_option maxRecDepth 100000
set_option maxHeartbeats 4000000
set_option linter.unusedVariables false
set_option linter.unusedSimpArgs false

theorem row_appG {α : Type} (o : List α) (d : α) : List.take (o.length + [d].length) (List.take o.length (List.drop 0 o) ++ [d]) = o ++ [d] := by
  rw [List.drop_zero, List.take_length, List.take_of_length_le (by simp)]
theorem ptR_get {r : Int} {l : List TFact} {k : Nat} (h : k < (0 :: chgF r l).length) : (0 :: chgF r l)[k] = ptR r l k := by unfold ptR; rw [List.getD_eq_getElem?_getD, List.getElem?_eq_getElem h]; rfl
theorem ptR_out {r : Int} {l : List TFact} {k : Nat} (h : (0 :: chgF r l).length ≤ k) : ptR r l k = 109573 := by unfold ptR; rw [List.getD_eq_getElem?_getD, List.getElem?_eq_none h]; rfl
theorem asV_some {l : List TFact} {m i r d : Int} (h : (bstF (relF m i d r) l).isSome = true) : asV l m i r d = some (valO (bstF (relF m i d r) l)) := by
  unfold asV; cases e : bstF (relF m i d r) l with
  | none => rw [e] at h; cases h
  | some f => rfl
theorem asV_none {l : List TFact} {m i r d : Int} (h : (bstF (relF m i d r) l).isSome = false) : asV l m i r d = none := by
  unfold asV; cases e : bstF (relF m i d r) l with
  | none => rfl
  | some f => rw [e] at h; cases h

theorem rtime_ok (l : List TFact) (m i r : Int) (hlm : l.length ≤ 10000) : Ct Try.prog 14 [.tv (rSlice rFact) l, .raw (.int .i64 (m)), .raw (.int .i64 (i)), .raw (.int .i64 (r))] (.tv (rSlice rValuePeriod) (timR l m i r)) := by
  refine ct_intro Try.func14 rfl rfl Try.ntmps14 rfl rfl ?_
  intro w0 ok0
  refine j_len 0 rfl (fun hl0 => ?_)
  refine j_seq ?_
  refine j_region ?_
  refine jg_adr _ rfl _ rfl rfl (op_assign (.base rfl)) ?_
  refine jg_nil ?_
  refine jn_keep [0, 1, 2, 3] [] (.cons rfl (.cons rfl (.cons rfl (.cons rfl .nil)))) .nil ?_
  refine jn_seq (j_seq ?_)
  have hcl := chgF_len r l
  refine j_region ?_
  refine jg_os _ rfl (op_obslice (rt := rInt .i64) (ds := [0]) Try.underlying37 ty3 z3 rfl (.cons (.raw (.base rfl) rfl) .nil) rfl rfl rfl rfl rfl) ?_
  refine jg_adr _ rfl _ rfl rfl (op_move (.base rfl)) ?_
  refine jg_adr _ rfl _ rfl rfl (op_move (.base rfl)) ?_
  refine jg_adr _ rfl _ rfl rfl (op_call (rchange_ok _ _ (by omega)) (.cons (.base rfl) (.cons (.base rfl) .nil)) rfl rfl) ?_
  refine jg_os _ rfl (op_append [0, 1, 2, 3] Try.underlying37 ty3 z3 rfl by3 (.base rfl) rfl (by (try simp); try omega) (.tv (.base rfl)) (by unfold maxLen; (try simp); try omega) (by (try simp); try omega) rfl (.cons rfl (.cons rfl (.cons rfl (.cons rfl .nil)))) rfl) ?_
  refine jg_adr _ rfl _ rfl rfl (op_assign (.base rfl)) ?_
  refine jg_seal (rt := rInt .i64) 16 9 (dropH 16 _) rfl rfl (by simp; omega) (dropH_sub 16 _) (dropH_no 16 _) ?_
  rw [show List.take ([(0 : Int)].length + (chgF r l).length) (List.drop 0 (List.take [(0 : Int)].length (List.drop 0 [(0 : Int)]) ++ chgF r l)) = (0 :: chgF r l) from List.take_of_length_le (by simp; omega)]
  obtain ⟨D, hD⟩ : ∃ D, (0 :: chgF r l) = D := ⟨_, rfl⟩
  rw [hD]
  have hDn : D.length = 1 + (chgF r l).length := by rw [← hD]; simp; omega
  have hDk : ∀ k (h : k < D.length), D[k] = ptR r l k := by subst hD; exact fun k h => ptR_get h
  have hDo : ∀ k, D.length ≤ k → ptR r l k = 109573 := by subst hD; exact fun k h => ptR_out h
  refine jg_nil ?_
  refine jn_keep [0, 1, 2, 3, 9] [] (.cons rfl (.cons rfl (.cons rfl (.cons rfl (.cons rfl .nil))))) .nil ?_
  refine jn_seq (j_seq ?_)
  refine j_region ?_
  refine jg_os _ rfl (op_obslice (rt := rValuePeriod) (ds := []) Try.underlying34 ty42 z42 rfl .nil rfl rfl rfl rfl rfl) ?_
  refine jg_adr _ rfl _ rfl rfl (op_assign (.base rfl)) ?_
  refine jg_nil ?_
  refine jn_keep [0, 1, 2, 3, 9, 10] [21] (.cons rfl (.cons rfl (.cons rfl (.cons rfl (.cons rfl (.cons rfl .nil)))))) (.cons rfl .nil) ?_
  refine jn_seq (j_seq (j_seq ?_))
  refine j_region ?_
  refine jg_adr _ rfl _ rfl rfl (op_assign (.base rfl)) ?_
  refine jg_nil ?_
  refine jn_keep [0, 1, 2, 3, 9, 10, 11] [21] (.cons rfl (.cons rfl (.cons rfl (.cons rfl (.cons rfl (.cons rfl (.cons rfl .nil))))))) (.cons rfl .nil) ?_
  refine jn_seq (j_block ?_)
  refine j_loopp (ι := Nat) (fun k => ⟨[(0, .tv (rSlice rFact) l), (1, .raw (.int .i64 (m))), (2, .raw (.int .i64 (i))), (3, .raw (.int .i64 (r))), (9, .tv (rSlice (rInt .i64)) D), (10, .own 21 rValuePeriod.n 0 (perF (ptR r l) (fun k => asV l m i r (ptR r l k)) k).length), (11, .raw (.int .i64 ((k : Nat))))], [(21, ⟨rValuePeriod, (perF (ptR r l) (fun k => asV l m i r (ptR r l k)) k)⟩)]⟩) (fun k => k ≤ D.length) (fun k => D.length - k) 0 (Nat.zero_le _) (fun a w hi => (Sub.inv ⟨(by repeat (first | exact SubS_nil | refine SubS_cons rfl (by first | rfl | (simp; done) | assumption) ?_)), (by repeat (first | exact SubH_nil | refine SubH_cons rfl (by first | rfl | (simp; done) | assumption) ?_))⟩ hi)) ?_
  rintro k hk
  have hpl := perF_len (ptR r l) (fun k => asV l m i r (ptR r l k)) k
  have hst := perF_succ (ptR r l) (fun k => asV l m i r (ptR r l k)) k
  obtain ⟨O, hO⟩ : ∃ O, (perF (ptR r l) (fun k => asV l m i r (ptR r l k)) k) = O := ⟨_, rfl⟩
  rw [hO] at hst hpl ⊢
  obtain ⟨L, hL⟩ : ∃ L, O[O.length - 1]?.getD ((0, 0), (0, (0, 0))) = L := ⟨_, rfl⟩
  have hGL : 0 < O.length → O[0 + (O.length - 1)]? = some L := fun h => by rw [← hL, Nat.zero_add]; exact getD_some (by omega)
  have hGD : (O.getD (O.length - 1) ((0, 0), (0, (0, 0)))) = L := by rw [List.getD_eq_getElem?_getD, hL]
  refine j_seq (j_seq ?_)
  refine j_region ?_
  refine jg_adr _ rfl _ rfl rfl (op_move (.base rfl)) ?_
  refine jg_adr _ rfl _ rfl rfl (op_move (.base rfl)) ?_
  refine jg_adr _ rfl _ rfl rfl (op_len Try.underlying37 (.base rfl)) ?_
  refine jg_adr _ rfl _ rfl rfl (op_lss (.base rfl) (.base rfl)) ?_
  refine jg_nil ?_
  refine jn_keep [0, 1, 2, 3, 9, 10, 11, 25] [21] (.cons rfl (.cons rfl (.cons rfl (.cons rfl (.cons rfl (.cons rfl (.cons rfl (.cons rfl .nil)))))))) (.cons rfl .nil) ?_
  refine jn_seq ?_
  refine j_cond rfl (fun h4 => ?_) (fun h4 => ?_)
  · have h4 : k < D.length := by simp at h4; omega
    refine j_skip (jn_seq (j_seq (j_block (j_seq ?_))))
    refine j_region ?_
    refine jg_adr _ rfl _ rfl rfl (op_assign (.base rfl)) ?_
    refine jg_nil ?_
    refine jn_keep [0, 1, 2, 3, 9, 10, 11, 12] [21] (.cons rfl (.cons rfl (.cons rfl (.cons rfl (.cons rfl (.cons rfl (.cons rfl (.cons rfl .nil)))))))) (.cons rfl .nil) ?_
    refine jn_seq (j_seq (j_seq ?_))
    refine j_region ?_
    refine jg_adr _ rfl _ rfl rfl (op_move (.base rfl)) ?_
    refine jg_adr _ rfl _ rfl rfl (op_add (.base rfl) (.base rfl) (w64 (by omega))) ?_
    refine jg_adr _ rfl _ rfl rfl (op_move (.base rfl)) ?_
    refine jg_adr _ rfl _ rfl rfl (op_len Try.underlying37 (.base rfl)) ?_
    refine jg_adr _ rfl _ rfl rfl (op_lss (.base rfl) (.base rfl)) ?_
    refine jg_nil ?_
    refine jn_keep [0, 1, 2, 3, 9, 10, 11, 12, 32] [21] (.cons rfl (.cons rfl (.cons rfl (.cons rfl (.cons rfl (.cons rfl (.cons rfl (.cons rfl (.cons rfl .nil))))))))) (.cons rfl .nil) ?_
    refine jn_seq ?_
    refine j_cond rfl (fun h7 => ?_) (fun h7 => ?_)
    · have h7 : k + 1 < D.length := by simp at h7; omega
      refine j_region ?_
      refine jg_adr _ rfl _ rfl rfl (op_move (.base rfl)) ?_
      refine jg_adr _ rfl _ rfl rfl (op_move (.base rfl)) ?_
      refine jg_adr _ rfl _ rfl rfl (op_add (.base rfl) (.base rfl) (w64 (by omega))) ?_
      refine jg_adr _ rfl _ rfl rfl (op_index Try.underlying37 ty3 (.base rfl) (.base rfl) rfl (List.getElem?_eq_getElem (by first | omega | (simp; done) | (simp; omega) | (simp at hg; omega)))) ?_
      refine jg_adr _ rfl _ rfl rfl (op_load ty3 (.base rfl)) ?_
      refine jg_adr _ rfl _ rfl rfl (op_assign (.base rfl)) ?_
      refine jg_nil ?_
      rw [hDk _ h7]
      refine jn_keep [0, 1, 2, 3, 9, 10, 11, 12] [21] (.cons rfl (.cons rfl (.cons rfl (.cons rfl (.cons rfl (.cons rfl (.cons rfl (.cons rfl .nil)))))))) (.cons rfl .nil) ?_
      refine jn_seq (j_seq ?_)
      refine j_region ?_
      refine jg_adr _ rfl _ rfl rfl (op_move (.base rfl)) ?_
      refine jg_adr _ rfl _ rfl rfl (op_move (.base rfl)) ?_
      refine jg_adr _ rfl _ rfl rfl (op_move (.base rfl)) ?_
      refine jg_adr _ rfl _ rfl rfl (op_move (.base rfl)) ?_
      refine jg_adr _ rfl _ rfl rfl (op_move (.base rfl)) ?_
      refine jg_adr _ rfl _ rfl rfl (op_index Try.underlying37 ty3 (.base rfl) (.base rfl) rfl (List.getElem?_eq_getElem (by first | omega | (simp; done) | (simp; omega) | (simp at hg; omega)))) ?_
      refine jg_adr _ rfl _ rfl rfl (op_load ty3 (.base rfl)) ?_
      refine jg_adr _ rfl _ rfl rfl (op_move (.base rfl)) ?_
      refine jg_adr _ rfl _ rfl rfl (op_call (rasof_ok _ _ _ _ _) (.cons (.base rfl) (.cons (.base rfl) (.cons (.base rfl) (.cons (.base rfl) (.cons (.base rfl) .nil))))) rfl rfl) ?_
      refine jg_adr _ rfl _ rfl rfl (op_move (.base rfl)) ?_
      refine jg_adr _ rfl _ rfl rfl (op_ext20 (.base rfl)) ?_
      refine jg_adr _ rfl _ rfl rfl (op_ext21 (.base rfl)) ?_
      refine jg_os _ rfl (op_alloc _ z30 rfl rfl rfl) ?_
      refine jg_os _ rfl (op_ostore ty30 (.base rfl) rfl rfl (Lens.id _) (.tv (.base rfl))) ?_
      refine jg_adr _ rfl _ rfl rfl (op_assign (.base rfl)) ?_
      refine jg_nil ?_
      rw [hDk _ h4]
      obtain ⟨V, hV⟩ : ∃ V, valO (bstF (relF m i (ptR r l k) r) l) = V := ⟨_, rfl⟩
      rw [hV]
      refine jn_keep [0, 1, 2, 3, 9, 10, 11, 12, 13, 14] [13, 21] (.cons rfl (.cons rfl (.cons rfl (.cons rfl (.cons rfl (.cons rfl (.cons rfl (.cons rfl (.cons rfl (.cons rfl .nil)))))))))) (.cons rfl (.cons rfl .nil)) ?_
      refine jn_seq (j_seq (j_seq ?_))
      refine j_region ?_
      refine jg_adr _ rfl _ rfl rfl (op_move (.base rfl)) ?_
      refine jg_adr _ rfl _ rfl rfl (op_not (.base rfl)) ?_
      refine jg_nil ?_
      refine jn_keep [0, 1, 2, 3, 9, 10, 11, 12, 13, 51] [13, 21] (.cons rfl (.cons rfl (.cons rfl (.cons rfl (.cons rfl (.cons rfl (.cons rfl (.cons rfl (.cons rfl (.cons rfl .nil)))))))))) (.cons rfl (.cons rfl .nil)) ?_
      refine jn_seq ?_
      refine j_cond rfl (fun h10 => ?_) (fun h10 => ?_)
      · have hN : asV l m i r (ptR r l k) = none := asV_none (by simpa using h10)
        have hs2 : perF (ptR r l) (fun k => asV l m i r (ptR r l k)) (k + 1) = O := by rw [hst, hN]; rfl
        refine j_exit (je_seq (je_blk (jn_seq ?_)))
        refine j_region ?_
        refine jg_adr _ rfl _ rfl rfl (op_move (.base rfl)) ?_
        refine jg_adr _ rfl _ rfl rfl (op_add (.base rfl) (.base rfl) (w64 (by omega))) ?_
        refine jg_adr _ rfl _ rfl rfl (op_assign (.base rfl)) ?_
        refine jg_nil ?_
        refine jn_keep [0, 1, 2, 3, 9, 10, 11] [21] (.cons rfl (.cons rfl (.cons rfl (.cons rfl (.cons rfl (.cons rfl (.cons rfl .nil))))))) (.cons rfl .nil) ?_
        exact jn_loop (fun a w hi => ⟨k + 1, (by first | omega | (simp; omega)), (by omega), Sub.inv ⟨(by repeat (first | exact SubS_nil | refine SubS_cons rfl (by first | rfl | (simp; done) | assumption | (refine congrArg (SV.own 21 rValuePeriod.n 0) ?_; rw [hs2]; done) | (refine congrArg (SV.own 21 rValuePeriod.n 0) ?_; rw [hs2]; simp; done)) ?_)), (by repeat (first | exact SubH_nil | refine SubH_cons rfl (by first | rfl | (simp; done) | assumption | (refine congrArg (HB.mk rValuePeriod) ?_; rw [hs2]; done) | (refine congrArg (HB.mk rValuePeriod) ?_; rw [hs2, Nat.zero_add]; done) | (refine congrArg (HB.mk rValuePeriod) ?_; rw [hs2]; simp; done)) ?_))⟩ hi⟩)
      · have hS : asV l m i r (ptR r l k) = some V := by rw [← hV]; exact asV_some (by simpa using h10)
        simp only [hS] at hst
        refine j_skip (jn_seq (j_seq ?_))
        refine j_region ?_
        refine jg_adr _ rfl _ rfl rfl (op_move (.base rfl)) ?_
        refine jg_adr _ rfl _ rfl rfl (op_len_own Try.underlying34 (.base rfl)) ?_
        refine jg_adr _ rfl _ rfl rfl (op_assign (.base rfl)) ?_
        refine jg_nil ?_
        refine jn_keep [0, 1, 2, 3, 9, 10, 11, 12, 13, 15] [13, 21] (.cons rfl (.cons rfl (.cons rfl (.cons rfl (.cons rfl (.cons rfl (.cons rfl (.cons rfl (.cons rfl (.cons rfl .nil)))))))))) (.cons rfl (.cons rfl .nil)) ?_
        refine jn_seq (j_seq (j_seq ?_))
        refine j_draw mo (by kernel_rfl) (
          AS.cons _ _ rfl (ga_adr rfl rfl rfl (op_move (.base rfl))) (
            AS.cons _ _ rfl (ga_adr rfl rfl rfl (op_gtr (.base rfl) (.base rfl))) (
            AS.cons _ _ rfl (ga_adr rfl rfl rfl (op_move (.base rfl))) (
            AS.cons _ _ rfl (ga_gd _ _ _ _ rfl rfl rfl rfl rfl (fun hg => op_move (.base rfl))) (
            AS.cons _ _ rfl (ga_gd _ _ _ _ rfl rfl rfl rfl rfl (fun hg => op_move (.base rfl))) (
            AS.cons _ _ rfl (ga_gd _ _ _ _ rfl rfl rfl rfl rfl (fun hg => op_sub (.gd rfl hg) (.base rfl) (w64 (by omega)))) (
            AS.cons _ _ rfl (ga_gd _ _ _ _ rfl rfl rfl rfl rfl (fun hg => op_oindex Try.underlying34 ty42 (.gd rfl hg) (.gd rfl hg) (show ((O.length : Nat) : Int) - 1 = ((O.length - 1 : Nat) : Int) from by first | omega | (have := of_decide_eq_true hg; omega) | (simp at hg; omega)) (by first | omega | (simp; done) | (simp; omega) | (simp at hg; omega)))) (
            AS.cons _ _ rfl (ga_gd _ _ _ _ rfl rfl rfl rfl rfl (fun hg => op_ofield fld42_0 (.gd rfl hg))) (
            AS.cons _ _ rfl (ga_gd _ _ _ _ rfl rfl rfl rfl rfl (fun hg => op_ofield fld40_1 (.gd rfl hg))) (
            AS.cons _ _ rfl (ga_gd _ _ _ _ rfl rfl rfl rfl rfl (fun hg => op_oload ty3 (.gd rfl hg) rfl (hGL (by simpa using hg)) (Lens.comp ln42_0 ln40_1))) (
            AS.cons _ _ rfl (ga_gd _ _ _ _ rfl rfl rfl rfl rfl (fun hg => op_move (.base rfl))) (
            AS.cons _ _ rfl (ga_gd _ _ _ _ rfl rfl rfl rfl rfl (fun hg => op_move (.base rfl))) (
            AS.cons _ _ rfl (ga_gd _ _ _ _ rfl rfl rfl rfl rfl (fun hg => op_index Try.underlying37 ty3 (.gd rfl hg) (.gd rfl hg) rfl (getD_some (z := (0 : Int)) (by first | omega | (simp; done) | (simp; omega) | (simp at hg; omega) | (simp at hg; simp; omega))))) (
            AS.cons _ _ rfl (ga_gd _ _ _ _ rfl rfl rfl rfl rfl (fun hg => op_load ty3 (.gd rfl hg))) (
            AS.cons _ _ rfl (ga_gd _ _ _ _ rfl rfl rfl rfl rfl (fun hg => op_eql (.gd rfl hg) (.gd rfl hg))) (
            AS.cons _ _ rfl (ga_adr rfl rfl rfl (op_pick_and (.base rfl) (.base rfl) rfl (by intro h; first | (rw [h]; rfl) | (rw [hg, h]; rfl) | (rw [h, hg]; rfl) | simp_all))) (
            AS.cons _ _ rfl (ga_adr rfl rfl rfl (op_move (.base rfl))) (
            AS.cons _ _ rfl (ga_gd _ _ _ _ rfl rfl rfl rfl rfl (fun hg => op_move (.base rfl))) (
            AS.cons _ _ rfl (ga_gd _ _ _ _ rfl rfl rfl rfl rfl (fun hg => op_move (.base rfl))) (
            AS.cons _ _ rfl (ga_gd _ _ _ _ rfl rfl rfl rfl rfl (fun hg => op_sub (.gd rfl hg) (.base rfl) (w64 (by omega)))) (
            AS.cons _ _ rfl (ga_gd _ _ _ _ rfl rfl rfl rfl rfl (fun hg => op_oindex Try.underlying34 ty42 (.gd rfl hg) (.gd rfl hg) (show ((O.length : Nat) : Int) - 1 = ((O.length - 1 : Nat) : Int) from by first | omega | (have := of_decide_eq_true hg; omega) | (simp at hg; omega) | (have h := hg; simp at h; omega)) (by first | omega | (simp; done) | (simp; omega) | (simp at hg; omega)))) (
            AS.cons _ _ rfl (ga_gd _ _ _ _ rfl rfl rfl rfl rfl (fun hg => op_ofield fld42_1 (.gd rfl hg))) (
            AS.cons _ _ rfl (ga_gd _ _ _ _ rfl rfl rfl rfl rfl (fun hg => op_oload ty30 (.gd rfl hg) rfl (hGL (by simp at hg; omega)) ln42_1)) (
            AS.cons _ _ rfl (ga_gd _ _ _ _ rfl rfl rfl rfl rfl (fun hg => op_oload ty30 (.base rfl) rfl rfl (Lens.id _))) (
            AS.cons _ _ rfl (ga_gd _ _ _ _ rfl rfl rfl rfl rfl (fun hg => op_seql eq30 rfl rfl eg30 (.tv (.gd rfl hg)) (.tv (.gd rfl hg)))) (
            AS.cons _ _ rfl (ga_adr rfl rfl rfl (op_pick_and (.base rfl) (.base rfl) rfl (by intro h; first | (rw [h]; rfl) | (rw [hg, h]; rfl) | (rw [h, hg]; rfl) | simp_all))) (
            AS.nil))))))))))))))))))))))))))) ?_
        refine jn_keep [0, 1, 2, 3, 9, 10, 11, 12, 13, 15, 79] [13, 21] (.cons rfl (.cons rfl (.cons rfl (.cons rfl (.cons rfl (.cons rfl (.cons rfl (.cons rfl (.cons rfl (.cons rfl (.cons rfl .nil))))))))))) (.cons rfl (.cons rfl .nil)) ?_
        refine jn_seq ?_
        refine j_cond rfl (fun h12 => ?_) (fun h12 => ?_)
        · have h12a : 0 < O.length ∧ L.1.2 = ptR r l k ∧ L.2 = V := by simp [List.getElem?_eq_getElem h4, hDk _ h4] at h12; exact ⟨by omega, h12.1.2, h12.2⟩
          have h12l := h12a.1
          have hs2 : perF (ptR r l) (fun k => asV l m i r (ptR r l k)) (k + 1) = O.set (O.length - 1) ((L.1.1, ptR r l (k + 1)), L.2) := by rw [hst]; simp only [addP]; rw [hGD, if_pos h12a]
          refine j_seq ?_
          refine j_region ?_
          refine jg_adr _ rfl _ rfl rfl (op_move (.base rfl)) ?_
          refine jg_adr _ rfl _ rfl rfl (op_move (.base rfl)) ?_
          refine jg_adr _ rfl _ rfl rfl (op_sub (.base rfl) (.base rfl) (w64 (by omega))) ?_
          refine jg_adr _ rfl _ rfl rfl (op_move (.base rfl)) ?_
          refine jg_adr _ rfl _ rfl rfl (op_oindex Try.underlying34 ty42 (.base rfl) (.base rfl) (show ((O.length : Nat) : Int) - 1 = ((O.length - 1 : Nat) : Int) from by omega) (by first | omega | (simp; done) | (simp; omega))) ?_
          refine jg_adr _ rfl _ rfl rfl (op_ofield fld42_0 (.base rfl)) ?_
          refine jg_adr _ rfl _ rfl rfl (op_ofield fld40_1 (.base rfl)) ?_
          refine jg_os _ rfl (op_ostore ty3 (.base rfl) rfl (hGL h12a.1) (Lens.comp ln42_0 ln40_1) (.raw (.base rfl) rfl)) ?_
          refine jg_nil ?_
          refine jn_keep [0, 1, 2, 3, 9, 10, 11] [21] (.cons rfl (.cons rfl (.cons rfl (.cons rfl (.cons rfl (.cons rfl (.cons rfl .nil))))))) (.cons rfl .nil) ?_
          refine jn_seq (j_exit (je_seq (je_blk (jn_seq ?_))))
          refine j_region ?_
          refine jg_adr _ rfl _ rfl rfl (op_move (.base rfl)) ?_
          refine jg_adr _ rfl _ rfl rfl (op_add (.base rfl) (.base rfl) (w64 (by omega))) ?_
          refine jg_adr _ rfl _ rfl rfl (op_assign (.base rfl)) ?_
          refine jg_nil ?_
          refine jn_keep [0, 1, 2, 3, 9, 10, 11] [21] (.cons rfl (.cons rfl (.cons rfl (.cons rfl (.cons rfl (.cons rfl (.cons rfl .nil))))))) (.cons rfl .nil) ?_
          exact jn_loop (fun a w hi => ⟨k + 1, (by first | omega | (simp; omega)), (by omega), Sub.inv ⟨(by repeat (first | exact SubS_nil | refine SubS_cons rfl (by first | rfl | (simp; done) | assumption | (refine congrArg (SV.own 21 rValuePeriod.n 0) ?_; rw [hs2]; done) | (refine congrArg (SV.own 21 rValuePeriod.n 0) ?_; rw [hs2]; simp; done)) ?_)), (by repeat (first | exact SubH_nil | refine SubH_cons rfl (by first | rfl | (simp; done) | assumption | (refine congrArg (HB.mk rValuePeriod) ?_; rw [hs2]; done) | (refine congrArg (HB.mk rValuePeriod) ?_; rw [hs2, Nat.zero_add]; done) | (refine congrArg (HB.mk rValuePeriod) ?_; rw [hs2]; simp; done)) ?_))⟩ hi⟩)
        · have h12b : ¬ (0 < O.length ∧ L.1.2 = ptR r l k ∧ L.2 = V) := by rintro ⟨q1, q2, q3⟩; simp [List.getElem?_eq_getElem h4, hDk _ h4] at h12; exact h12 (by omega) q2 q3
          have hs2 : perF (ptR r l) (fun k => asV l m i r (ptR r l k)) (k + 1) = O ++ [((ptR r l k, ptR r l (k + 1)), V)] := by rw [hst]; simp only [addP]; rw [hGD, if_neg h12b]
          refine j_skip (jn_seq ?_)
          refine j_draw_bar 10 mo (by kernel_rfl) (by kernel_rfl) (
            AS.cons _ _ rfl (ga_adr rfl rfl rfl (op_move (.base rfl))) (
              AS.cons _ _ rfl (ga_adr rfl rfl rfl (op_move (.base rfl))) (
              AS.cons _ _ rfl (ga_adr rfl rfl rfl (op_move (.base rfl))) (
              AS.cons _ _ rfl (ga_adr rfl rfl rfl (op_index Try.underlying37 ty3 (.base rfl) (.base rfl) rfl (List.getElem?_eq_getElem (by first | omega | (simp; done) | (simp; omega) | (simp at hg; omega))))) (
              AS.cons _ _ rfl (ga_adr rfl rfl rfl (op_load ty3 (.base rfl))) (
              AS.cons _ _ rfl (ga_adr rfl rfl rfl (op_move (.base rfl))) (
              AS.cons _ _ rfl (ga_adr rfl rfl rfl (op_build z40 rfl pl40 (.cons (rt' := (rInt .i64)) rfl ln40_0 (.raw (.base rfl) rfl) (.cons (rt' := (rInt .i64)) rfl ln40_1 (.raw (.base rfl) rfl) .nil)))) (
              AS.cons _ _ rfl (ga_adr rfl rfl rfl (op_oload ty30 (.base rfl) rfl rfl (Lens.id _))) (
              AS.cons _ _ rfl (ga_adr rfl rfl rfl (op_build z42 rfl pl42 (.cons (rt' := rDateRange) rfl ln42_0 (.tv (.base rfl)) (.cons (rt' := rValue) rfl ln42_1 (.tv (.base rfl)) .nil)))) (
              AS.cons _ _ rfl (ga_adr rfl rfl rfl (op_bslice (rt := rValuePeriod) Try.underlying34 ty42 z42 rfl (.cons (.tv (.base rfl)) .nil) rfl rfl)) (
              AS.nil))))))))))) rfl rfl (op_append [0, 1, 2, 3, 9, 11] Try.underlying34 ty42 z42 rfl by42 (.base rfl) rfl (by (try simp); try omega) (.tv (.base rfl)) (by unfold maxLen; (try simp); try omega) (by (try simp); try omega) rfl (.cons rfl (.cons rfl (.cons rfl (.cons rfl (.cons rfl (.cons rfl .nil)))))) rfl) (
            AS.cons _ _ rfl (ga_adr rfl rfl rfl (op_assign (.base rfl))) (
              AS.nil)) ?_
          rw [hDk _ h4]
          refine jn_keep [0, 1, 2, 3, 9, 10, 11] [21] (.cons rfl (.cons rfl (.cons rfl (.cons rfl (.cons rfl (.cons rfl (.cons rfl .nil))))))) (.cons rfl .nil) ?_
          refine jn_blk (jn_seq ?_)
          refine j_region ?_
          refine jg_adr _ rfl _ rfl rfl (op_move (.base rfl)) ?_
          refine jg_adr _ rfl _ rfl rfl (op_add (.base rfl) (.base rfl) (w64 (by omega))) ?_
          refine jg_adr _ rfl _ rfl rfl (op_assign (.base rfl)) ?_
          refine jg_nil ?_
          refine jn_keep [0, 1, 2, 3, 9, 10, 11] [21] (.cons rfl (.cons rfl (.cons rfl (.cons rfl (.cons rfl (.cons rfl (.cons rfl .nil))))))) (.cons rfl .nil) ?_
          exact jn_loop (fun a w hi => ⟨k + 1, (by first | omega | (simp; omega)), (by omega), Sub.inv ⟨(by repeat (first | exact SubS_nil | refine SubS_cons rfl (by first | rfl | (simp; done) | assumption | (refine congrArg (SV.own 21 rValuePeriod.n 0) ?_; rw [hs2]; done) | (refine congrArg (SV.own 21 rValuePeriod.n 0) ?_; rw [hs2]; simp; done)) ?_)), (by repeat (first | exact SubH_nil | refine SubH_cons rfl (by first | rfl | (simp; done) | assumption | (refine congrArg (HB.mk rValuePeriod) ?_; rw [hs2]; done) | (refine congrArg (HB.mk rValuePeriod) ?_; rw [hs2, Nat.zero_add]; done) | (refine congrArg (HB.mk rValuePeriod) ?_; rw [hs2]; simp; done)) ?_))⟩ hi⟩)
    · have h7 : D.length ≤ k + 1 := by simp at h7; omega
      rw [show (109573 : Int) = ptR r l (k + 1) from (hDo _ h7).symm]
      refine j_skip (jn_seq (j_seq ?_))
      refine j_region ?_
      refine jg_adr _ rfl _ rfl rfl (op_move (.base rfl)) ?_
      refine jg_adr _ rfl _ rfl rfl (op_move (.base rfl)) ?_
      refine jg_adr _ rfl _ rfl rfl (op_move (.base rfl)) ?_
      refine jg_adr _ rfl _ rfl rfl (op_move (.base rfl)) ?_
      refine jg_adr _ rfl _ rfl rfl (op_move (.base rfl)) ?_
      refine jg_adr _ rfl _ rfl rfl (op_index Try.underlying37 ty3 (.base rfl) (.base rfl) rfl (List.getElem?_eq_getElem (by first | omega | (simp; done) | (simp; omega) | (simp at hg; omega)))) ?_
      refine jg_adr _ rfl _ rfl rfl (op_load ty3 (.base rfl)) ?_
      refine jg_adr _ rfl _ rfl rfl (op_move (.base rfl)) ?_
      refine jg_adr _ rfl _ rfl rfl (op_call (rasof_ok _ _ _ _ _) (.cons (.base rfl) (.cons (.base rfl) (.cons (.base rfl) (.cons (.base rfl) (.cons (.base rfl) .nil))))) rfl rfl) ?_
      refine jg_adr _ rfl _ rfl rfl (op_move (.base rfl)) ?_
      refine jg_adr _ rfl _ rfl rfl (op_ext20 (.base rfl)) ?_
      refine jg_adr _ rfl _ rfl rfl (op_ext21 (.base rfl)) ?_
      refine jg_os _ rfl (op_alloc _ z30 rfl rfl rfl) ?_
      refine jg_os _ rfl (op_ostore ty30 (.base rfl) rfl rfl (Lens.id _) (.tv (.base rfl))) ?_
      refine jg_adr _ rfl _ rfl rfl (op_assign (.base rfl)) ?_
      refine jg_nil ?_
      rw [hDk _ h4]
      obtain ⟨V, hV⟩ : ∃ V, valO (bstF (relF m i (ptR r l k) r) l) = V := ⟨_, rfl⟩
      rw [hV]
      refine jn_keep [0, 1, 2, 3, 9, 10, 11, 12, 13, 14] [13, 21] (.cons rfl (.cons rfl (.cons rfl (.cons rfl (.cons rfl (.cons rfl (.cons rfl (.cons rfl (.cons rfl (.cons rfl .nil)))))))))) (.cons rfl (.cons rfl .nil)) ?_
      refine jn_seq (j_seq (j_seq ?_))
      refine j_region ?_
      refine jg_adr _ rfl _ rfl rfl (op_move (.base rfl)) ?_
      refine jg_adr _ rfl _ rfl rfl (op_not (.base rfl)) ?_
      refine jg_nil ?_
      refine jn_keep [0, 1, 2, 3, 9, 10, 11, 12, 13, 51] [13, 21] (.cons rfl (.cons rfl (.cons rfl (.cons rfl (.cons rfl (.cons rfl (.cons rfl (.cons rfl (.cons rfl (.cons rfl .nil)))))))))) (.cons rfl (.cons rfl .nil)) ?_
      refine jn_seq ?_
      refine j_cond rfl (fun h10 => ?_) (fun h10 => ?_)
      · have hN : asV l m i r (ptR r l k) = none := asV_none (by simpa using h10)
        have hs2 : perF (ptR r l) (fun k => asV l m i r (ptR r l k)) (k + 1) = O := by rw [hst, hN]; rfl
        refine j_exit (je_seq (je_blk (jn_seq ?_)))
        refine j_region ?_
        refine jg_adr _ rfl _ rfl rfl (op_move (.base rfl)) ?_
        refine jg_adr _ rfl _ rfl rfl (op_add (.base rfl) (.base rfl) (w64 (by omega))) ?_
        refine jg_adr _ rfl _ rfl rfl (op_assign (.base rfl)) ?_
        refine jg_nil ?_
        refine jn_keep [0, 1, 2, 3, 9, 10, 11] [21] (.cons rfl (.cons rfl (.cons rfl (.cons rfl (.cons rfl (.cons rfl (.cons rfl .nil))))))) (.cons rfl .nil) ?_
        exact jn_loop (fun a w hi => ⟨k + 1, (by first | omega | (simp; omega)), (by omega), Sub.inv ⟨(by repeat (first | exact SubS_nil | refine SubS_cons rfl (by first | rfl | (simp; done) | assumption | (refine congrArg (SV.own 21 rValuePeriod.n 0) ?_; rw [hs2]; done) | (refine congrArg (SV.own 21 rValuePeriod.n 0) ?_; rw [hs2]; simp; done)) ?_)), (by repeat (first | exact SubH_nil | refine SubH_cons rfl (by first | rfl | (simp; done) | assumption | (refine congrArg (HB.mk rValuePeriod) ?_; rw [hs2]; done) | (refine congrArg (HB.mk rValuePeriod) ?_; rw [hs2, Nat.zero_add]; done) | (refine congrArg (HB.mk rValuePeriod) ?_; rw [hs2]; simp; done)) ?_))⟩ hi⟩)
      · have hS : asV l m i r (ptR r l k) = some V := by rw [← hV]; exact asV_some (by simpa using h10)
        simp only [hS] at hst
        refine j_skip (jn_seq (j_seq ?_))
        refine j_region ?_
        refine jg_adr _ rfl _ rfl rfl (op_move (.base rfl)) ?_
        refine jg_adr _ rfl _ rfl rfl (op_len_own Try.underlying34 (.base rfl)) ?_
        refine jg_adr _ rfl _ rfl rfl (op_assign (.base rfl)) ?_
        refine jg_nil ?_
        refine jn_keep [0, 1, 2, 3, 9, 10, 11, 12, 13, 15] [13, 21] (.cons rfl (.cons rfl (.cons rfl (.cons rfl (.cons rfl (.cons rfl (.cons rfl (.cons rfl (.cons rfl (.cons rfl .nil)))))))))) (.cons rfl (.cons rfl .nil)) ?_
        refine jn_seq (j_seq (j_seq ?_))
        refine j_draw mo (by kernel_rfl) (
          AS.cons _ _ rfl (ga_adr rfl rfl rfl (op_move (.base rfl))) (
            AS.cons _ _ rfl (ga_adr rfl rfl rfl (op_gtr (.base rfl) (.base rfl))) (
            AS.cons _ _ rfl (ga_adr rfl rfl rfl (op_move (.base rfl))) (
            AS.cons _ _ rfl (ga_gd _ _ _ _ rfl rfl rfl rfl rfl (fun hg => op_move (.base rfl))) (
            AS.cons _ _ rfl (ga_gd _ _ _ _ rfl rfl rfl rfl rfl (fun hg => op_move (.base rfl))) (
            AS.cons _ _ rfl (ga_gd _ _ _ _ rfl rfl rfl rfl rfl (fun hg => op_sub (.gd rfl hg) (.base rfl) (w64 (by omega)))) (
            AS.cons _ _ rfl (ga_gd _ _ _ _ rfl rfl rfl rfl rfl (fun hg => op_oindex Try.underlying34 ty42 (.gd rfl hg) (.gd rfl hg) (show ((O.length : Nat) : Int) - 1 = ((O.length - 1 : Nat) : Int) from by first | omega | (have := of_decide_eq_true hg; omega) | (simp at hg; omega)) (by first | omega | (simp; done) | (simp; omega) | (simp at hg; omega)))) (
            AS.cons _ _ rfl (ga_gd _ _ _ _ rfl rfl rfl rfl rfl (fun hg => op_ofield fld42_0 (.gd rfl hg))) (
            AS.cons _ _ rfl (ga_gd _ _ _ _ rfl rfl rfl rfl rfl (fun hg => op_ofield fld40_1 (.gd rfl hg))) (
            AS.cons _ _ rfl (ga_gd _ _ _ _ rfl rfl rfl rfl rfl (fun hg => op_oload ty3 (.gd rfl hg) rfl (hGL (by simpa using hg)) (Lens.comp ln42_0 ln40_1))) (
            AS.cons _ _ rfl (ga_gd _ _ _ _ rfl rfl rfl rfl rfl (fun hg => op_move (.base rfl))) (
            AS.cons _ _ rfl (ga_gd _ _ _ _ rfl rfl rfl rfl rfl (fun hg => op_move (.base rfl))) (
            AS.cons _ _ rfl (ga_gd _ _ _ _ rfl rfl rfl rfl rfl (fun hg => op_index Try.underlying37 ty3 (.gd rfl hg) (.gd rfl hg) rfl (getD_some (z := (0 : Int)) (by first | omega | (simp; done) | (simp; omega) | (simp at hg; omega) | (simp at hg; simp; omega))))) (
            AS.cons _ _ rfl (ga_gd _ _ _ _ rfl rfl rfl rfl rfl (fun hg => op_load ty3 (.gd rfl hg))) (
            AS.cons _ _ rfl (ga_gd _ _ _ _ rfl rfl rfl rfl rfl (fun hg => op_eql (.gd rfl hg) (.gd rfl hg))) (
            AS.cons _ _ rfl (ga_adr rfl rfl rfl (op_pick_and (.base rfl) (.base rfl) rfl (by intro h; first | (rw [h]; rfl) | (rw [hg, h]; rfl) | (rw [h, hg]; rfl) | simp_all))) (
            AS.cons _ _ rfl (ga_adr rfl rfl rfl (op_move (.base rfl))) (
            AS.cons _ _ rfl (ga_gd _ _ _ _ rfl rfl rfl rfl rfl (fun hg => op_move (.base rfl))) (
            AS.cons _ _ rfl (ga_gd _ _ _ _ rfl rfl rfl rfl rfl (fun hg => op_move (.base rfl))) (
            AS.cons _ _ rfl (ga_gd _ _ _ _ rfl rfl rfl rfl rfl (fun hg => op_sub (.gd rfl hg) (.base rfl) (w64 (by omega)))) (
            AS.cons _ _ rfl (ga_gd _ _ _ _ rfl rfl rfl rfl rfl (fun hg => op_oindex Try.underlying34 ty42 (.gd rfl hg) (.gd rfl hg) (show ((O.length : Nat) : Int) - 1 = ((O.length - 1 : Nat) : Int) from by first | omega | (have := of_decide_eq_true hg; omega) | (simp at hg; omega) | (have h := hg; simp at h; omega)) (by first | omega | (simp; done) | (simp; omega) | (simp at hg; omega)))) (
            AS.cons _ _ rfl (ga_gd _ _ _ _ rfl rfl rfl rfl rfl (fun hg => op_ofield fld42_1 (.gd rfl hg))) (
            AS.cons _ _ rfl (ga_gd _ _ _ _ rfl rfl rfl rfl rfl (fun hg => op_oload ty30 (.gd rfl hg) rfl (hGL (by simp at hg; omega)) ln42_1)) (
            AS.cons _ _ rfl (ga_gd _ _ _ _ rfl rfl rfl rfl rfl (fun hg => op_oload ty30 (.base rfl) rfl rfl (Lens.id _))) (
            AS.cons _ _ rfl (ga_gd _ _ _ _ rfl rfl rfl rfl rfl (fun hg => op_seql eq30 rfl rfl eg30 (.tv (.gd rfl hg)) (.tv (.gd rfl hg)))) (
            AS.cons _ _ rfl (ga_adr rfl rfl rfl (op_pick_and (.base rfl) (.base rfl) rfl (by intro h; first | (rw [h]; rfl) | (rw [hg, h]; rfl) | (rw [h, hg]; rfl) | simp_all))) (
            AS.nil))))))))))))))))))))))))))) ?_
        refine jn_keep [0, 1, 2, 3, 9, 10, 11, 12, 13, 15, 79] [13, 21] (.cons rfl (.cons rfl (.cons rfl (.cons rfl (.cons rfl (.cons rfl (.cons rfl (.cons rfl (.cons rfl (.cons rfl (.cons rfl .nil))))))))))) (.cons rfl (.cons rfl .nil)) ?_
        refine jn_seq ?_
        refine j_cond rfl (fun h12 => ?_) (fun h12 => ?_)
        · have h12a : 0 < O.length ∧ L.1.2 = ptR r l k ∧ L.2 = V := by simp [List.getElem?_eq_getElem h4, hDk _ h4] at h12; exact ⟨by omega, h12.1.2, h12.2⟩
          have h12l := h12a.1
          have hs2 : perF (ptR r l) (fun k => asV l m i r (ptR r l k)) (k + 1) = O.set (O.length - 1) ((L.1.1, ptR r l (k + 1)), L.2) := by rw [hst]; simp only [addP]; rw [hGD, if_pos h12a]
          refine j_seq ?_
          refine j_region ?_
          refine jg_adr _ rfl _ rfl rfl (op_move (.base rfl)) ?_
          refine jg_adr _ rfl _ rfl rfl (op_move (.base rfl)) ?_
          refine jg_adr _ rfl _ rfl rfl (op_sub (.base rfl) (.base rfl) (w64 (by omega))) ?_
          refine jg_adr _ rfl _ rfl rfl (op_move (.base rfl)) ?_
          refine jg_adr _ rfl _ rfl rfl (op_oindex Try.underlying34 ty42 (.base rfl) (.base rfl) (show ((O.length : Nat) : Int) - 1 = ((O.length - 1 : Nat) : Int) from by omega) (by first | omega | (simp; done) | (simp; omega))) ?_
          refine jg_adr _ rfl _ rfl rfl (op_ofield fld42_0 (.base rfl)) ?_
          refine jg_adr _ rfl _ rfl rfl (op_ofield fld40_1 (.base rfl)) ?_
          refine jg_os _ rfl (op_ostore ty3 (.base rfl) rfl (hGL h12a.1) (Lens.comp ln42_0 ln40_1) (.raw (.base rfl) rfl)) ?_
          refine jg_nil ?_
          refine jn_keep [0, 1, 2, 3, 9, 10, 11] [21] (.cons rfl (.cons rfl (.cons rfl (.cons rfl (.cons rfl (.cons rfl (.cons rfl .nil))))))) (.cons rfl .nil) ?_
          refine jn_seq (j_exit (je_seq (je_blk (jn_seq ?_))))
          refine j_region ?_
          refine jg_adr _ rfl _ rfl rfl (op_move (.base rfl)) ?_
          refine jg_adr _ rfl _ rfl rfl (op_add (.base rfl) (.base rfl) (w64 (by omega))) ?_
          refine jg_adr _ rfl _ rfl rfl (op_assign (.base rfl)) ?_
          refine jg_nil ?_
          refine jn_keep [0, 1, 2, 3, 9, 10, 11] [21] (.cons rfl (.cons rfl (.cons rfl (.cons rfl (.cons rfl (.cons rfl (.cons rfl .nil))))))) (.cons rfl .nil) ?_
          exact jn_loop (fun a w hi => ⟨k + 1, (by first | omega | (simp; omega)), (by omega), Sub.inv ⟨(by repeat (first | exact SubS_nil | refine SubS_cons rfl (by first | rfl | (simp; done) | assumption | (refine congrArg (SV.own 21 rValuePeriod.n 0) ?_; rw [hs2]; done) | (refine congrArg (SV.own 21 rValuePeriod.n 0) ?_; rw [hs2]; simp; done)) ?_)), (by repeat (first | exact SubH_nil | refine SubH_cons rfl (by first | rfl | (simp; done) | assumption | (refine congrArg (HB.mk rValuePeriod) ?_; rw [hs2]; done) | (refine congrArg (HB.mk rValuePeriod) ?_; rw [hs2, Nat.zero_add]; done) | (refine congrArg (HB.mk rValuePeriod) ?_; rw [hs2]; simp; done)) ?_))⟩ hi⟩)
        · have h12b : ¬ (0 < O.length ∧ L.1.2 = ptR r l k ∧ L.2 = V) := by rintro ⟨q1, q2, q3⟩; simp [List.getElem?_eq_getElem h4, hDk _ h4] at h12; exact h12 (by omega) q2 q3
          have hs2 : perF (ptR r l) (fun k => asV l m i r (ptR r l k)) (k + 1) = O ++ [((ptR r l k, ptR r l (k + 1)), V)] := by rw [hst]; simp only [addP]; rw [hGD, if_neg h12b]
          refine j_skip (jn_seq ?_)
          refine j_draw_bar 10 mo (by kernel_rfl) (by kernel_rfl) (
            AS.cons _ _ rfl (ga_adr rfl rfl rfl (op_move (.base rfl))) (
              AS.cons _ _ rfl (ga_adr rfl rfl rfl (op_move (.base rfl))) (
              AS.cons _ _ rfl (ga_adr rfl rfl rfl (op_move (.base rfl))) (
              AS.cons _ _ rfl (ga_adr rfl rfl rfl (op_index Try.underlying37 ty3 (.base rfl) (.base rfl) rfl (List.getElem?_eq_getElem (by first | omega | (simp; done) | (simp; omega) | (simp at hg; omega))))) (
              AS.cons _ _ rfl (ga_adr rfl rfl rfl (op_load ty3 (.base rfl))) (
              AS.cons _ _ rfl (ga_adr rfl rfl rfl (op_move (.base rfl))) (
              AS.cons _ _ rfl (ga_adr rfl rfl rfl (op_build z40 rfl pl40 (.cons (rt' := (rInt .i64)) rfl ln40_0 (.raw (.base rfl) rfl) (.cons (rt' := (rInt .i64)) rfl ln40_1 (.raw (.base rfl) rfl) .nil)))) (
              AS.cons _ _ rfl (ga_adr rfl rfl rfl (op_oload ty30 (.base rfl) rfl rfl (Lens.id _))) (
              AS.cons _ _ rfl (ga_adr rfl rfl rfl (op_build z42 rfl pl42 (.cons (rt' := rDateRange) rfl ln42_0 (.tv (.base rfl)) (.cons (rt' := rValue) rfl ln42_1 (.tv (.base rfl)) .nil)))) (
              AS.cons _ _ rfl (ga_adr rfl rfl rfl (op_bslice (rt := rValuePeriod) Try.underlying34 ty42 z42 rfl (.cons (.tv (.base rfl)) .nil) rfl rfl)) (
              AS.nil))))))))))) rfl rfl (op_append [0, 1, 2, 3, 9, 11] Try.underlying34 ty42 z42 rfl by42 (.base rfl) rfl (by (try simp); try omega) (.tv (.base rfl)) (by unfold maxLen; (try simp); try omega) (by (try simp); try omega) rfl (.cons rfl (.cons rfl (.cons rfl (.cons rfl (.cons rfl (.cons rfl .nil)))))) rfl) (
            AS.cons _ _ rfl (ga_adr rfl rfl rfl (op_assign (.base rfl))) (
              AS.nil)) ?_
          rw [hDk _ h4]
          refine jn_keep [0, 1, 2, 3, 9, 10, 11] [21] (.cons rfl (.cons rfl (.cons rfl (.cons rfl (.cons rfl (.cons rfl (.cons rfl .nil))))))) (.cons rfl .nil) ?_
          refine jn_blk (jn_seq ?_)
          refine j_region ?_
          refine jg_adr _ rfl _ rfl rfl (op_move (.base rfl)) ?_
          refine jg_adr _ rfl _ rfl rfl (op_add (.base rfl) (.base rfl) (w64 (by omega))) ?_
          refine jg_adr _ rfl _ rfl rfl (op_assign (.base rfl)) ?_
          refine jg_nil ?_
          refine jn_keep [0, 1, 2, 3, 9, 10, 11] [21] (.cons rfl (.cons rfl (.cons rfl (.cons rfl (.cons rfl (.cons rfl (.cons rfl .nil))))))) (.cons rfl .nil) ?_
          exact jn_loop (fun a w hi => ⟨k + 1, (by first | omega | (simp; omega)), (by omega), Sub.inv ⟨(by repeat (first | exact SubS_nil | refine SubS_cons rfl (by first | rfl | (simp; done) | assumption | (refine congrArg (SV.own 21 rValuePeriod.n 0) ?_; rw [hs2]; done) | (refine congrArg (SV.own 21 rValuePeriod.n 0) ?_; rw [hs2]; simp; done)) ?_)), (by repeat (first | exact SubH_nil | refine SubH_cons rfl (by first | rfl | (simp; done) | assumption | (refine congrArg (HB.mk rValuePeriod) ?_; rw [hs2]; done) | (refine congrArg (HB.mk rValuePeriod) ?_; rw [hs2, Nat.zero_add]; done) | (refine congrArg (HB.mk rValuePeriod) ?_; rw [hs2]; simp; done)) ?_))⟩ hi⟩)
  · have h4 : k = D.length := by simp at h4; omega
    refine j_exit (je_seq (je_loop (je_blk (jn_seq (j_seq ?_)))))
    refine j_region ?_
    refine jg_adr _ rfl _ rfl rfl (op_move (.base rfl)) ?_
    refine jg_adr _ rfl _ rfl rfl (op_assign (.base rfl)) ?_
    refine jg_nil ?_
    refine jn_keep [8] [21] (.cons rfl .nil) (.cons rfl .nil) ?_
    refine jn_seq (j_ret ?_)
    refine jr_seal (rt := rValuePeriod) 21 8 (dropH 21 _) rfl rfl (by simp) (dropH_sub 21 _) (dropH_no 21 _) ?_
    exact jr_fin1 Try.results14 (res_tmp rfl) rfl (congrArg (SV.tv (rSlice rValuePeriod)) (by rw [List.drop_zero, List.take_length]; unfold timR; rw [← hO, h4, hDn]))

end Go.Proofs.Ytfamnoalgjkjhaa
