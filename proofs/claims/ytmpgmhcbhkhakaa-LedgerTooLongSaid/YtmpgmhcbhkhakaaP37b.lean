import Derived.Test.YtmpgmhcbhkhakaaP37a
namespace Go.Proofs.Ytmpgmhcbhkhakaa
open Go.Eng
set_option maxRecDepth 100000
set_option maxHeartbeats 4000000
set_option linter.unusedVariables false
set_option linter.unusedSimpArgs false


theorem val_small {l : List Po} {k : Nat} {a b : Int} (h : ¬ l.length > 4096) (hp : valK l k = valK l 0) (he : valK l k = (a, b)) : valL l = (a, b) := by
  unfold valL; rw [if_neg h, ← hp, he]
theorem err_at {l : List Po} {k : Nat} (hk : k < l.length) {e : Int} (he : errAt l k = e) (h0 : e ≠ 0) : valK l k = ((k : Int), e) := by
  rw [valK_step hk, he, if_pos (by simpa using h0)]
theorem err_no {l : List Po} {k : Nat} (hk : k < l.length) (he : errAt l k = 0) : valK l k = valK l (k + 1) := by
  rw [valK_step hk, he]; rfl

theorem rvalidate_ok (l : List Po) : Ct Try.prog 10 [.tv (rSlice rPosting) l] (.tup2 (.raw (.int .i64 (valL l).1)) (.raw (.int .i64 (valL l).2))) := by
  refine ct_intro Try.func10 rfl rfl Try.ntmps10 rfl rfl ?_
  intro w0 ok0
  refine j_len 0 rfl (fun hl0 => ?_)
  refine j_seq ?_
  refine j_region ?_
  refine jg_adr _ rfl _ rfl rfl (op_assign (.base rfl)) ?_
  refine jg_adr _ rfl _ rfl rfl (op_assign (.base rfl)) ?_
  refine jg_nil ?_
  refine jn_keep [0] [] (.cons rfl .nil) .nil ?_
  refine jn_seq (j_seq (j_seq ?_))
  refine j_region ?_
  refine jg_adr _ rfl _ rfl rfl (op_move (.base rfl)) ?_
  refine jg_adr _ rfl _ rfl rfl (op_len Try.underlying22 (.base rfl)) ?_
  refine jg_adr _ rfl _ rfl rfl (op_gtr (.base rfl) (.base rfl)) ?_
  refine jg_nil ?_
  refine jn_keep [0, 8] [] (.cons rfl (.cons rfl .nil)) .nil ?_
  refine jn_seq ?_
  refine j_cond rfl (fun h1 => ?_) (fun h1 => ?_)
  · try simp at h1
    refine j_seq ?_
    refine j_region ?_
    refine jg_adr _ rfl _ rfl rfl (op_assign (.base rfl)) ?_
    refine jg_adr _ rfl _ rfl rfl (op_assign (.base rfl)) ?_
    refine jg_nil ?_
    refine jn_keep [2, 3] [] (.cons rfl (.cons rfl .nil)) .nil ?_
    refine jn_seq (j_ret (jr_seq ?_))
    exact jr_fin2 Try.results10 (res_tmp rfl) (res_tmp rfl) ⟨rfl, rfl⟩ (show SV.tup2 _ _ = SV.tup2 (.raw (.int .i64 (valL l).1)) (.raw (.int .i64 (valL l).2)) by rw [show valL l = (4096, 4) from by unfold valL; rw [if_pos (by omega)]])
  · try simp at h1
    refine j_skip (jn_seq (j_seq (j_seq ?_)))
    refine j_region ?_
    refine jg_adr _ rfl _ rfl rfl (op_assign (.base rfl)) ?_
    refine jg_nil ?_
    refine jn_keep [0, 4] [] (.cons rfl (.cons rfl .nil)) .nil ?_
    refine jn_seq (j_block ?_)
    refine j_loopp (ι := Nat) (fun k => ⟨[(0, .tv (rSlice rPosting) l), (4, .raw (.int .i64 ((k : Nat))))], []⟩) (fun k => k ≤ l.length ∧ valK l k = valK l 0) (fun k => l.length - k) 0 (⟨Nat.zero_le _, rfl⟩) (fun a w hi => (Sub.inv ⟨(by repeat (first | exact SubS_nil | refine SubS_cons rfl (by first | rfl | (simp; done) | assumption) ?_)), (by repeat (first | exact SubH_nil | refine SubH_cons rfl (by first | rfl | (simp; done) | assumption) ?_))⟩ hi)) ?_
    rintro k ⟨hk, hp⟩
    refine j_seq (j_seq ?_)
    refine j_region ?_
    refine jg_adr _ rfl _ rfl rfl (op_move (.base rfl)) ?_
    refine jg_adr _ rfl _ rfl rfl (op_move (.base rfl)) ?_
    refine jg_adr _ rfl _ rfl rfl (op_len Try.underlying22 (.base rfl)) ?_
    refine jg_adr _ rfl _ rfl rfl (op_lss (.base rfl) (.base rfl)) ?_
    refine jg_nil ?_
    refine jn_keep [0, 4, 12] [] (.cons rfl (.cons rfl (.cons rfl .nil))) .nil ?_
    refine jn_seq ?_
    refine j_cond rfl (fun h4 => ?_) (fun h4 => ?_)
    · try simp at h4
      refine j_skip (jn_seq (j_seq (j_block (j_seq ?_))))
      have hk' : k < l.length := by omega
      refine j_region ?_
      refine jg_adr _ rfl _ rfl rfl (op_move (.base rfl)) ?_
      refine jg_adr _ rfl _ rfl rfl (op_move (.base rfl)) ?_
      refine jg_adr _ rfl _ rfl rfl (op_index Try.underlying22 ty37 (.base rfl) (.base rfl) rfl (List.getElem?_eq_getElem (by first | omega | (simp; done) | (simp; omega) | (simp at hg; omega)))) ?_
      refine jg_adr _ rfl _ rfl rfl (op_load ty37 (.base rfl)) ?_
      refine jg_os _ rfl (op_alloc _ z37 rfl rfl rfl) ?_
      refine jg_os _ rfl (op_ostore ty37 (.base rfl) rfl rfl (Lens.id _) (.tv (.base rfl))) ?_
      refine jg_nil ?_
      refine jn_keep [0, 4, 5] [5] (.cons rfl (.cons rfl (.cons rfl .nil))) (.cons rfl .nil) ?_
      refine jn_seq (j_seq (j_seq ?_))
      refine j_region ?_
      refine jg_adr _ rfl _ rfl rfl (op_ofield fld37_0 (.base rfl)) ?_
      refine jg_adr _ rfl _ rfl rfl (op_oload ty3 (.base rfl) rfl rfl ln37_0) ?_
      refine jg_adr _ rfl _ rfl rfl (op_lss (.base rfl) (.base rfl)) ?_
      refine jg_adr _ rfl _ rfl rfl (op_move (.base rfl)) ?_
      refine jg_gd _ _ _ _ _ _ rfl rfl rfl rfl rfl (fun hg => op_ofield fld37_0 (.base rfl)) ?_
      refine jg_gd _ _ _ _ _ _ rfl rfl rfl rfl rfl (fun hg => op_oload ty3 (.gd rfl hg) rfl rfl ln37_0) ?_
      refine jg_gd _ _ _ _ _ _ rfl rfl rfl rfl rfl (fun hg => op_gtr (.gd rfl hg) (.base rfl)) ?_
      refine jg_adr _ rfl _ rfl rfl (op_pick_or (.base rfl) (.base rfl) rfl (by intro h; first | (rw [h]; rfl) | (rw [hg, h]; rfl) | (rw [h, hg]; rfl) | simp_all)) ?_
      refine jg_adr _ rfl _ rfl rfl (op_move (.base rfl)) ?_
      refine jg_gd _ _ _ _ _ _ rfl rfl rfl rfl rfl (fun hg => op_ofield fld37_1 (.base rfl)) ?_
      refine jg_gd _ _ _ _ _ _ rfl rfl rfl rfl rfl (fun hg => op_oload ty3 (.gd rfl hg) rfl rfl ln37_1) ?_
      refine jg_gd _ _ _ _ _ _ rfl rfl rfl rfl rfl (fun hg => op_lss (.gd rfl hg) (.base rfl)) ?_
      refine jg_adr _ rfl _ rfl rfl (op_pick_or (.base rfl) (.base rfl) rfl (by intro h; first | (rw [h]; rfl) | (rw [hg, h]; rfl) | (rw [h, hg]; rfl) | simp_all)) ?_
      refine jg_adr _ rfl _ rfl rfl (op_move (.base rfl)) ?_
      refine jg_gd _ _ _ _ _ _ rfl rfl rfl rfl rfl (fun hg => op_ofield fld37_1 (.base rfl)) ?_
      refine jg_gd _ _ _ _ _ _ rfl rfl rfl rfl rfl (fun hg => op_oload ty3 (.gd rfl hg) rfl rfl ln37_1) ?_
      refine jg_gd _ _ _ _ _ _ rfl rfl rfl rfl rfl (fun hg => op_gtr (.gd rfl hg) (.base rfl)) ?_
      refine jg_adr _ rfl _ rfl rfl (op_pick_or (.base rfl) (.base rfl) rfl (by intro h; first | (rw [h]; rfl) | (rw [hg, h]; rfl) | (rw [h, hg]; rfl) | simp_all)) ?_
      refine jg_adr _ rfl _ rfl rfl (op_move (.base rfl)) ?_
      refine jg_gd _ _ _ _ _ _ rfl rfl rfl rfl rfl (fun hg => op_ofield fld37_3 (.base rfl)) ?_
      refine jg_gd _ _ _ _ _ _ rfl rfl rfl rfl rfl (fun hg => op_oload ty3 (.gd rfl hg) rfl rfl ln37_3) ?_
      refine jg_gd _ _ _ _ _ _ rfl rfl rfl rfl rfl (fun hg => op_lss (.gd rfl hg) (.base rfl)) ?_
      refine jg_adr _ rfl _ rfl rfl (op_pick_or (.base rfl) (.base rfl) rfl (by intro h; first | (rw [h]; rfl) | (rw [hg, h]; rfl) | (rw [h, hg]; rfl) | simp_all)) ?_
      refine jg_adr _ rfl _ rfl rfl (op_move (.base rfl)) ?_
      refine jg_gd _ _ _ _ _ _ rfl rfl rfl rfl rfl (fun hg => op_ofield fld37_3 (.base rfl)) ?_
      refine jg_gd _ _ _ _ _ _ rfl rfl rfl rfl rfl (fun hg => op_oload ty3 (.gd rfl hg) rfl rfl ln37_3) ?_
      refine jg_gd _ _ _ _ _ _ rfl rfl rfl rfl rfl (fun hg => op_gtr (.gd rfl hg) (.base rfl)) ?_
      refine jg_adr _ rfl _ rfl rfl (op_pick_or (.base rfl) (.base rfl) rfl (by intro h; first | (rw [h]; rfl) | (rw [hg, h]; rfl) | (rw [h, hg]; rfl) | simp_all)) ?_
      refine jg_nil ?_
      refine jn_keep [0, 4, 5, 46] [5] (.cons rfl (.cons rfl (.cons rfl (.cons rfl .nil)))) (.cons rfl .nil) ?_
      refine jn_seq ?_
      refine j_cond rfl (fun h7 => ?_) (fun h7 => ?_)
      · try simp at h7
        refine j_seq ?_
        refine j_region ?_
        refine jg_adr _ rfl _ rfl rfl (op_move (.base rfl)) ?_
        refine jg_adr _ rfl _ rfl rfl (op_assign (.base rfl)) ?_
        refine jg_adr _ rfl _ rfl rfl (op_assign (.base rfl)) ?_
        refine jg_nil ?_
        refine jn_keep [2, 3] [] (.cons rfl (.cons rfl .nil)) .nil ?_
        refine jn_seq (j_ret (jr_seq (jr_blk (jr_seq (jr_loop (jr_blk (jr_seq ?_)))))))
        exact jr_fin2 Try.results10 (res_tmp rfl) (res_tmp rfl) ⟨rfl, rfl⟩ (show SV.tup2 _ _ = SV.tup2 (.raw (.int .i64 (valL l).1)) (.raw (.int .i64 (valL l).2)) by rw [val_small (by omega) hp (err_at (e := 3) hk' (by unfold errAt; rw [List.getElem?_eq_getElem hk']; simp only [];  rw [if_pos (by omega)]) (by decide))])
      · try simp at h7
        refine j_skip (jn_seq (j_seq (j_seq ?_)))
        refine j_region ?_
        refine jg_adr _ rfl _ rfl rfl (op_ofield fld37_2 (.base rfl)) ?_
        refine jg_adr _ rfl _ rfl rfl (op_oload ty3 (.base rfl) rfl rfl ln37_2) ?_
        refine jg_adr _ rfl _ rfl rfl (op_lss (.base rfl) (.base rfl)) ?_
        refine jg_adr _ rfl _ rfl rfl (op_move (.base rfl)) ?_
        refine jg_gd _ _ _ _ _ _ rfl rfl rfl rfl rfl (fun hg => op_ofield fld37_2 (.base rfl)) ?_
        refine jg_gd _ _ _ _ _ _ rfl rfl rfl rfl rfl (fun hg => op_oload ty3 (.gd rfl hg) rfl rfl ln37_2) ?_
        refine jg_gd _ _ _ _ _ _ rfl rfl rfl rfl rfl (fun hg => op_gtr (.gd rfl hg) (.base rfl)) ?_
        refine jg_adr _ rfl _ rfl rfl (op_pick_or (.base rfl) (.base rfl) rfl (by intro h; first | (rw [h]; rfl) | (rw [hg, h]; rfl) | (rw [h, hg]; rfl) | simp_all)) ?_
        refine jg_nil ?_
        refine jn_keep [0, 4, 5, 55] [5] (.cons rfl (.cons rfl (.cons rfl (.cons rfl .nil)))) (.cons rfl .nil) ?_
        refine jn_seq ?_
        refine j_cond rfl (fun h9 => ?_) (fun h9 => ?_)
        · try simp at h9
          refine j_seq ?_
          refine j_region ?_
          refine jg_adr _ rfl _ rfl rfl (op_move (.base rfl)) ?_
          refine jg_adr _ rfl _ rfl rfl (op_assign (.base rfl)) ?_
          refine jg_adr _ rfl _ rfl rfl (op_assign (.base rfl)) ?_
          refine jg_nil ?_
          refine jn_keep [2, 3] [] (.cons rfl (.cons rfl .nil)) .nil ?_
          refine jn_seq (j_ret (jr_seq (jr_blk (jr_seq (jr_loop (jr_blk (jr_seq ?_)))))))
          exact jr_fin2 Try.results10 (res_tmp rfl) (res_tmp rfl) ⟨rfl, rfl⟩ (show SV.tup2 _ _ = SV.tup2 (.raw (.int .i64 (valL l).1)) (.raw (.int .i64 (valL l).2)) by rw [val_small (by omega) hp (err_at (e := 1) hk' (by unfold errAt; rw [List.getElem?_eq_getElem hk']; simp only [];  rw [if_neg (by omega), if_pos (by omega)]) (by decide))])
        · try simp at h9
          refine j_skip (jn_seq (j_seq (j_seq ?_)))
          refine j_draw mo (by kernel_rfl) (
            AS.cons _ _ rfl (ga_adr rfl rfl rfl (op_move (.base rfl))) (
              AS.cons _ _ rfl (ga_adr rfl rfl rfl (op_gtr (.base rfl) (.base rfl))) (
              AS.cons _ _ rfl (ga_adr rfl rfl rfl (op_move (.base rfl))) (
              AS.cons _ _ rfl (ga_gd _ _ _ _ rfl rfl rfl rfl rfl (fun hg => op_ofield fld37_0 (.base rfl))) (
              AS.cons _ _ rfl (ga_gd _ _ _ _ rfl rfl rfl rfl rfl (fun hg => op_oload ty3 (.gd rfl hg) rfl rfl ln37_0)) (
              AS.cons _ _ rfl (ga_gd _ _ _ _ rfl rfl rfl rfl rfl (fun hg => op_move (.base rfl))) (
              AS.cons _ _ rfl (ga_gd _ _ _ _ rfl rfl rfl rfl rfl (fun hg => op_move (.base rfl))) (
              AS.cons _ _ rfl (ga_gd _ _ _ _ rfl rfl rfl rfl rfl (fun hg => op_sub (.gd rfl hg) (.base rfl) (w64 (by omega)))) (
              AS.cons _ _ rfl (ga_gd _ _ _ _ rfl rfl rfl rfl rfl (fun hg => op_index Try.underlying22 ty37 (.gd rfl hg) (.gd rfl hg) (show (k : Int) - 1 = ((k - 1 : Nat) : Int) by simp at hg; omega) (getD_some (z := ((0, (0, (0, 0))) : TPosting)) (by first | omega | (simp; done) | (simp; omega) | (simp at hg; omega) | (simp at hg; simp; omega))))) (
              AS.cons _ _ rfl (ga_gd _ _ _ _ rfl rfl rfl rfl rfl (fun hg => op_field fld37_0 ln37_0 (.gd rfl hg))) (
              AS.cons _ _ rfl (ga_gd _ _ _ _ rfl rfl rfl rfl rfl (fun hg => op_load ty3 (.gd rfl hg))) (
              AS.cons _ _ rfl (ga_gd _ _ _ _ rfl rfl rfl rfl rfl (fun hg => op_lss (.gd rfl hg) (.gd rfl hg))) (
              AS.cons _ _ rfl (ga_adr rfl rfl rfl (op_pick_and (.base rfl) (.base rfl) rfl (by intro h; first | (rw [h]; rfl) | (rw [hg, h]; rfl) | (rw [h, hg]; rfl) | simp_all))) (
              AS.nil)))))))))))))) ?_
          refine jn_keep [0, 4, 5, 69] [5] (.cons rfl (.cons rfl (.cons rfl (.cons rfl .nil)))) (.cons rfl .nil) ?_
          refine jn_seq ?_
          refine j_cond rfl (fun h11 => ?_) (fun h11 => ?_)
          · have hord : 0 < k ∧ l[k].1 < (l[k - 1]?.getD ((0, 0, 0, 0) : Po)).1 := by simp at h11; exact h11
            refine j_seq ?_
            refine j_region ?_
            refine jg_adr _ rfl _ rfl rfl (op_move (.base rfl)) ?_
            refine jg_adr _ rfl _ rfl rfl (op_assign (.base rfl)) ?_
            refine jg_adr _ rfl _ rfl rfl (op_assign (.base rfl)) ?_
            refine jg_nil ?_
            refine jn_keep [2, 3] [] (.cons rfl (.cons rfl .nil)) .nil ?_
            refine jn_seq (j_ret (jr_seq (jr_blk (jr_seq (jr_loop (jr_blk (jr_seq ?_)))))))
            exact jr_fin2 Try.results10 (res_tmp rfl) (res_tmp rfl) ⟨rfl, rfl⟩ (show SV.tup2 _ _ = SV.tup2 (.raw (.int .i64 (valL l).1)) (.raw (.int .i64 (valL l).2)) by rw [val_small (by omega) hp (err_at (e := 9) hk' (by unfold errAt; rw [List.getElem?_eq_getElem hk']; simp only [];  rw [if_neg (by omega), if_neg (by omega), if_pos hord]) (by decide))])
          · have hord : ¬ (0 < k ∧ l[k].1 < (l[k - 1]?.getD ((0, 0, 0, 0) : Po)).1) := by rintro ⟨a1, a2⟩; simp at h11; have := h11 a1; omega
            refine j_skip (jn_seq (j_seq ?_))
            refine j_draw mo (by kernel_rfl) (
              AS.cons _ _ rfl (ga_adr rfl rfl rfl (op_move (.base rfl))) (
                AS.cons _ _ rfl (ga_adr rfl rfl rfl (op_move (.base rfl))) (
                AS.cons _ _ rfl (ga_adr rfl rfl rfl (op_add (.base rfl) (.base rfl) (w64 (by omega)))) (
                AS.cons _ _ rfl (ga_adr rfl rfl rfl (op_slice Try.underlying22 ty37 (.base rfl) rfl ⟨_, _, (.base rfl), (show (k : Int) + 1 = ((k + 1 : Nat) : Int) by omega)⟩ (by omega) (by omega))) (
                AS.cons _ _ rfl (ga_adr rfl rfl rfl (op_ofield fld37_1 (.base rfl))) (
                AS.cons _ _ rfl (ga_adr rfl rfl rfl (op_oload ty3 (.base rfl) rfl rfl ln37_1)) (
                AS.cons _ _ rfl (ga_adr rfl rfl rfl (op_call (rreceived_ok _ _) (.cons (.base rfl) (.cons (.base rfl) .nil)) rfl rfl)) (
                AS.cons _ _ rfl (ga_adr rfl rfl rfl (op_lss (.base rfl) (.base rfl))) (
                AS.nil))))))))) ?_
            refine jn_keep [0, 4, 78] [] (.cons rfl (.cons rfl (.cons rfl .nil))) .nil ?_
            refine jn_seq ?_
            refine j_cond rfl (fun h13 => ?_) (fun h13 => ?_)
            · try simp at h13
              refine j_seq ?_
              refine j_region ?_
              refine jg_adr _ rfl _ rfl rfl (op_move (.base rfl)) ?_
              refine jg_adr _ rfl _ rfl rfl (op_assign (.base rfl)) ?_
              refine jg_adr _ rfl _ rfl rfl (op_assign (.base rfl)) ?_
              refine jg_nil ?_
              refine jn_keep [2, 3] [] (.cons rfl (.cons rfl .nil)) .nil ?_
              refine jn_seq (j_ret (jr_blk (jr_seq (jr_loop (jr_blk (jr_seq ?_))))))
              exact jr_fin2 Try.results10 (res_tmp rfl) (res_tmp rfl) ⟨rfl, rfl⟩ (show SV.tup2 _ _ = SV.tup2 (.raw (.int .i64 (valL l).1)) (.raw (.int .i64 (valL l).2)) by rw [val_small (by omega) hp (err_at (e := 13) hk' (by unfold errAt; rw [List.getElem?_eq_getElem hk']; simp only [];  rw [if_neg (by omega), if_neg (by omega), if_neg hord, if_pos (by omega)]) (by decide))])
            · try simp at h13
              refine j_skip (jn_blk (jn_seq ?_))
              refine j_region ?_
              refine jg_adr _ rfl _ rfl rfl (op_move (.base rfl)) ?_
              refine jg_adr _ rfl _ rfl rfl (op_add (.base rfl) (.base rfl) (w64 (by omega))) ?_
              refine jg_adr _ rfl _ rfl rfl (op_assign (.base rfl)) ?_
              refine jg_nil ?_
              refine jn_keep [0, 4] [] (.cons rfl (.cons rfl .nil)) .nil ?_
              exact jn_loop (fun a w hi => ⟨k + 1, (by first | omega | (simp; omega)), (⟨by omega, by rw [← hp, ← err_no hk' (by unfold errAt; rw [List.getElem?_eq_getElem hk']; simp only []; rw [if_neg (by omega), if_neg (by omega), if_neg hord, if_neg (by omega)])]⟩), (Sub.inv ⟨(by repeat (first | exact SubS_nil | refine SubS_cons rfl (by first | rfl | (simp; done) | assumption) ?_)), (by repeat (first | exact SubH_nil | refine SubH_cons rfl (by first | rfl | (simp; done) | assumption) ?_))⟩ hi)⟩)
    · try simp at h4
      refine j_exit (je_seq (je_loop (je_blk (jn_seq (j_seq ?_)))))
      refine j_region ?_
      refine jg_adr _ rfl _ rfl rfl (op_assign (.base rfl)) ?_
      refine jg_adr _ rfl _ rfl rfl (op_assign (.base rfl)) ?_
      refine jg_nil ?_
      refine jn_keep [2, 3] [] (.cons rfl (.cons rfl .nil)) .nil ?_
      refine jn_seq (j_ret ?_)
      exact jr_fin2 Try.results10 (res_tmp rfl) (res_tmp rfl) ⟨rfl, rfl⟩ (show SV.tup2 _ _ = SV.tup2 (.raw (.int .i64 (valL l).1)) (.raw (.int .i64 (valL l).2)) by rw [val_small (by omega) hp (valK_end (by omega))])

theorem validate_ok (l : List Po) : Ct Try.prog 9 [.tv (rSlice rPosting) l] (.tup2 (.raw (.int .i64 (valL l).1)) (.raw (.int .i64 (valL l).2))) := by
  refine ct_intro Try.func9 rfl rfl Try.ntmps9 rfl rfl ?_
  intro w0 ok0
  refine j_len 0 rfl (fun hl0 => ?_)
  refine j_seq ?_
  refine j_region ?_
  refine jg_adr _ rfl _ rfl rfl (op_assign (.base rfl)) ?_
  refine jg_adr _ rfl _ rfl rfl (op_assign (.base rfl)) ?_
  refine jg_nil ?_
  refine jn_keep [0] [] (.cons rfl .nil) .nil ?_
  refine jn_seq (j_seq (j_seq ?_))
  refine j_region ?_
  refine jg_adr _ rfl _ rfl rfl (op_move (.base rfl)) ?_
  refine jg_adr _ rfl _ rfl rfl (op_len Try.underlying22 (.base rfl)) ?_
  refine jg_adr _ rfl _ rfl rfl (op_gtr (.base rfl) (.base rfl)) ?_
  refine jg_nil ?_
  refine jn_keep [0, 9] [] (.cons rfl (.cons rfl .nil)) .nil ?_
  refine jn_seq ?_
  refine j_cond rfl (fun h1 => ?_) (fun h1 => ?_)
  · try simp at h1
    refine j_seq ?_
    refine j_region ?_
    refine jg_adr _ rfl _ rfl rfl (op_assign (.base rfl)) ?_
    refine jg_adr _ rfl _ rfl rfl (op_assign (.base rfl)) ?_
    refine jg_nil ?_
    refine jn_keep [2, 3] [] (.cons rfl (.cons rfl .nil)) .nil ?_
    refine jn_seq (j_ret (jr_seq ?_))
    exact jr_fin2 Try.results9 (res_tmp rfl) (res_tmp rfl) ⟨rfl, rfl⟩ (show SV.tup2 _ _ = SV.tup2 (.raw (.int .i64 (valL l).1)) (.raw (.int .i64 (valL l).2)) by rw [show valL l = (4096, 4) from by unfold valL; rw [if_pos (by omega)]])
  · try simp at h1
    refine j_skip (jn_seq (j_seq ?_))
    refine j_region ?_
    refine jg_os _ rfl (op_makeMap (kt := 3) mE40 rfl rfl) ?_
    refine jg_adr _ rfl _ rfl rfl (op_assign (.base rfl)) ?_
    refine jg_nil ?_
    refine jn_keep [0, 4] [10] (.cons rfl (.cons rfl .nil)) (.cons rfl .nil) ?_
    refine jn_seq (j_seq (j_seq ?_))
    refine j_region ?_
    refine jg_adr _ rfl _ rfl rfl (op_move (.base rfl)) ?_
    refine jg_adr _ rfl _ rfl rfl (op_len Try.underlying22 (.base rfl)) ?_
    refine jg_adr _ rfl _ rfl rfl (op_move (.base rfl)) ?_
    refine jg_nil ?_
    refine jn_keep [0, 4, 11, 12, 13] [10] (.cons rfl (.cons rfl (.cons rfl (.cons rfl (.cons rfl .nil))))) (.cons rfl .nil) ?_
    refine jn_seq (j_block ?_)
    refine j_loopp (ι := Nat) (fun k => ⟨[(0, .tv (rSlice rPosting) l), (4, .mref 10), (11, .tv (rSlice rPosting) l), (12, .raw (.int .i64 (l.length))), (13, .raw (.int .i64 ((k : Nat))))], [(10, ⟨rMap Try.prog 3 3 mE40, [(k, fun m => recvL (l.take k) m)]⟩)]⟩) (fun k => k ≤ l.length ∧ valK l k = valK l 0) (fun k => l.length - k) 0 (⟨Nat.zero_le _, rfl⟩) (fun a w hi => (Sub.inv ⟨(by repeat (first | exact SubS_nil | refine SubS_cons rfl (by first | rfl | (simp; done) | assumption) ?_)), (by repeat (first | exact SubH_nil | refine SubH_cons rfl (by first | rfl | (refine congrArg (HB.mk (rMap Try.prog 3 3 mE40)) ?_; simp [recvL]; done)) ?_))⟩ hi)) ?_
    rintro k ⟨hk, hp⟩
    refine j_seq ?_
    refine j_region ?_
    refine jg_adr _ rfl _ rfl rfl (op_lss (.base rfl) (.base rfl)) ?_
    refine jg_nil ?_
    refine jn_keep [0, 4, 11, 12, 13, 14] [10] (.cons rfl (.cons rfl (.cons rfl (.cons rfl (.cons rfl (.cons rfl .nil)))))) (.cons rfl .nil) ?_
    refine jn_seq (j_seq ?_)
    refine j_cond rfl (fun h5 => ?_) (fun h5 => ?_)
    · try simp at h5
      refine j_skip (jn_seq (j_seq (j_block (j_seq ?_))))
      have hk' : k < l.length := by omega
      refine j_region ?_
      refine jg_adr _ rfl _ rfl rfl (op_move (.base rfl)) ?_
      refine jg_adr _ rfl _ rfl rfl (op_index Try.underlying22 ty37 (.base rfl) (.base rfl) rfl (List.getElem?_eq_getElem (by first | omega | (simp; done) | (simp; omega) | (simp at hg; omega)))) ?_
      refine jg_adr _ rfl _ rfl rfl (op_load ty37 (.base rfl)) ?_
      refine jg_os _ rfl (op_alloc _ z37 rfl rfl rfl) ?_
      refine jg_adr _ rfl _ rfl rfl (op_assign (.base rfl)) ?_
      refine jg_os _ rfl (op_ostore ty37 (.base rfl) rfl rfl (Lens.id _) (.tv (.base rfl))) ?_
      refine jg_nil ?_
      refine jn_keep [0, 4, 5, 6, 11, 12, 13] [6, 10] (.cons rfl (.cons rfl (.cons rfl (.cons rfl (.cons rfl (.cons rfl (.cons rfl .nil))))))) (.cons rfl (.cons rfl .nil)) ?_
      refine jn_seq (j_seq (j_block (j_seq (j_seq ?_))))
      refine j_region ?_
      refine jg_adr _ rfl _ rfl rfl (op_ofield fld37_0 (.base rfl)) ?_
      refine jg_adr _ rfl _ rfl rfl (op_oload ty3 (.base rfl) rfl rfl ln37_0) ?_
      refine jg_adr _ rfl _ rfl rfl (op_lss (.base rfl) (.base rfl)) ?_
      refine jg_adr _ rfl _ rfl rfl (op_move (.base rfl)) ?_
      refine jg_gd _ _ _ _ _ _ rfl rfl rfl rfl rfl (fun hg => op_ofield fld37_0 (.base rfl)) ?_
      refine jg_gd _ _ _ _ _ _ rfl rfl rfl rfl rfl (fun hg => op_oload ty3 (.gd rfl hg) rfl rfl ln37_0) ?_
      refine jg_gd _ _ _ _ _ _ rfl rfl rfl rfl rfl (fun hg => op_gtr (.gd rfl hg) (.base rfl)) ?_
      refine jg_adr _ rfl _ rfl rfl (op_pick_or (.base rfl) (.base rfl) rfl (by intro h; first | (rw [h]; rfl) | (rw [hg, h]; rfl) | (rw [h, hg]; rfl) | simp_all)) ?_
      refine jg_adr _ rfl _ rfl rfl (op_assign (.base rfl)) ?_
      refine jg_nil ?_
      refine jn_keep [0, 4, 5, 6, 11, 12, 13, 18] [6, 10] (.cons rfl (.cons rfl (.cons rfl (.cons rfl (.cons rfl (.cons rfl (.cons rfl (.cons rfl .nil)))))))) (.cons rfl (.cons rfl .nil)) ?_
      refine jn_seq ?_
      refine j_cond rfl (fun h7 => ?_) (fun h7 => ?_)
      · have g7 := h7; try simp at h7
        refine j_skip (jn_seq ?_)
        refine j_cond_t rfl g7 (j_seq ?_)
        refine j_region ?_
        refine jg_adr _ rfl _ rfl rfl (op_move (.base rfl)) ?_
        refine jg_adr _ rfl _ rfl rfl (op_assign (.base rfl)) ?_
        refine jg_adr _ rfl _ rfl rfl (op_assign (.base rfl)) ?_
        refine jg_nil ?_
        refine jn_keep [2, 3] [] (.cons rfl (.cons rfl .nil)) .nil ?_
        refine jn_seq (j_ret (jr_blk (jr_seq (jr_blk (jr_seq (jr_loop (jr_blk (jr_seq ?_))))))))
        exact jr_fin2 Try.results9 (res_tmp rfl) (res_tmp rfl) ⟨rfl, rfl⟩ (show SV.tup2 _ _ = SV.tup2 (.raw (.int .i64 (valL l).1)) (.raw (.int .i64 (valL l).2)) by rw [val_small (by omega) hp (err_at (e := 3) hk' (by unfold errAt; rw [List.getElem?_eq_getElem hk']; simp only [];  rw [if_pos (by omega)]) (by decide))])
      · have g7 := h7; try simp at h7
        refine j_seq ?_
        refine j_region ?_
        refine jg_adr _ rfl _ rfl rfl (op_ofield fld37_1 (.base rfl)) ?_
        refine jg_adr _ rfl _ rfl rfl (op_oload ty3 (.base rfl) rfl rfl ln37_1) ?_
        refine jg_adr _ rfl _ rfl rfl (op_lss (.base rfl) (.base rfl)) ?_
        refine jg_adr _ rfl _ rfl rfl (op_move (.base rfl)) ?_
        refine jg_gd _ _ _ _ _ _ rfl rfl rfl rfl rfl (fun hg => op_ofield fld37_1 (.base rfl)) ?_
        refine jg_gd _ _ _ _ _ _ rfl rfl rfl rfl rfl (fun hg => op_oload ty3 (.gd rfl hg) rfl rfl ln37_1) ?_
        refine jg_gd _ _ _ _ _ _ rfl rfl rfl rfl rfl (fun hg => op_gtr (.gd rfl hg) (.base rfl)) ?_
        refine jg_adr _ rfl _ rfl rfl (op_pick_or (.base rfl) (.base rfl) rfl (by intro h; first | (rw [h]; rfl) | (rw [hg, h]; rfl) | (rw [h, hg]; rfl) | simp_all)) ?_
        refine jg_adr _ rfl _ rfl rfl (op_assign (.base rfl)) ?_
        refine jg_nil ?_
        refine jn_keep [0, 4, 5, 6, 11, 12, 13, 18] [6, 10] (.cons rfl (.cons rfl (.cons rfl (.cons rfl (.cons rfl (.cons rfl (.cons rfl (.cons rfl .nil)))))))) (.cons rfl (.cons rfl .nil)) ?_
        refine jn_seq ?_
        refine j_cond rfl (fun h8 => ?_) (fun h8 => ?_)
        · have g8 := h8; try simp at h8
          refine j_skip (jn_seq ?_)
          refine j_cond_t rfl g8 (j_seq ?_)
          refine j_region ?_
          refine jg_adr _ rfl _ rfl rfl (op_move (.base rfl)) ?_
          refine jg_adr _ rfl _ rfl rfl (op_assign (.base rfl)) ?_
          refine jg_adr _ rfl _ rfl rfl (op_assign (.base rfl)) ?_
          refine jg_nil ?_
          refine jn_keep [2, 3] [] (.cons rfl (.cons rfl .nil)) .nil ?_
          refine jn_seq (j_ret (jr_blk (jr_seq (jr_blk (jr_seq (jr_loop (jr_blk (jr_seq ?_))))))))
          exact jr_fin2 Try.results9 (res_tmp rfl) (res_tmp rfl) ⟨rfl, rfl⟩ (show SV.tup2 _ _ = SV.tup2 (.raw (.int .i64 (valL l).1)) (.raw (.int .i64 (valL l).2)) by rw [val_small (by omega) hp (err_at (e := 3) hk' (by unfold errAt; rw [List.getElem?_eq_getElem hk']; simp only [];  rw [if_pos (by omega)]) (by decide))])
        · have g8 := h8; try simp at h8
          refine j_region ?_
          refine jg_adr _ rfl _ rfl rfl (op_ofield fld37_3 (.base rfl)) ?_
          refine jg_adr _ rfl _ rfl rfl (op_oload ty3 (.base rfl) rfl rfl ln37_3) ?_
          refine jg_adr _ rfl _ rfl rfl (op_lss (.base rfl) (.base rfl)) ?_
          refine jg_adr _ rfl _ rfl rfl (op_move (.base rfl)) ?_
          refine jg_gd _ _ _ _ _ _ rfl rfl rfl rfl rfl (fun hg => op_ofield fld37_3 (.base rfl)) ?_
          refine jg_gd _ _ _ _ _ _ rfl rfl rfl rfl rfl (fun hg => op_oload ty3 (.gd rfl hg) rfl rfl ln37_3) ?_
          refine jg_gd _ _ _ _ _ _ rfl rfl rfl rfl rfl (fun hg => op_gtr (.gd rfl hg) (.base rfl)) ?_
          refine jg_adr _ rfl _ rfl rfl (op_pick_or (.base rfl) (.base rfl) rfl (by intro h; first | (rw [h]; rfl) | (rw [hg, h]; rfl) | (rw [h, hg]; rfl) | simp_all)) ?_
          refine jg_adr _ rfl _ rfl rfl (op_assign (.base rfl)) ?_
          refine jg_nil ?_
          refine jn_keep [0, 4, 5, 6, 11, 12, 13, 18] [6, 10] (.cons rfl (.cons rfl (.cons rfl (.cons rfl (.cons rfl (.cons rfl (.cons rfl (.cons rfl .nil)))))))) (.cons rfl (.cons rfl .nil)) ?_
          refine jn_seq ?_
          refine j_cond rfl (fun h9 => ?_) (fun h9 => ?_)
          · have g9 := h9; try simp at h9
            refine j_seq ?_
            refine j_region ?_
            refine jg_adr _ rfl _ rfl rfl (op_move (.base rfl)) ?_
            refine jg_adr _ rfl _ rfl rfl (op_assign (.base rfl)) ?_
            refine jg_adr _ rfl _ rfl rfl (op_assign (.base rfl)) ?_
            refine jg_nil ?_
            refine jn_keep [2, 3] [] (.cons rfl (.cons rfl .nil)) .nil ?_
            refine jn_seq (j_ret (jr_blk (jr_seq (jr_blk (jr_seq (jr_loop (jr_blk (jr_seq ?_))))))))
            exact jr_fin2 Try.results9 (res_tmp rfl) (res_tmp rfl) ⟨rfl, rfl⟩ (show SV.tup2 _ _ = SV.tup2 (.raw (.int .i64 (valL l).1)) (.raw (.int .i64 (valL l).2)) by rw [val_small (by omega) hp (err_at (e := 3) hk' (by unfold errAt; rw [List.getElem?_eq_getElem hk']; simp only [];  rw [if_pos (by omega)]) (by decide))])
          · have g9 := h9; try simp at h9
            refine j_seq ?_
            refine j_region ?_
            refine jg_adr _ rfl _ rfl rfl (op_ofield fld37_2 (.base rfl)) ?_
            refine jg_adr _ rfl _ rfl rfl (op_oload ty3 (.base rfl) rfl rfl ln37_2) ?_
            refine jg_adr _ rfl _ rfl rfl (op_lss (.base rfl) (.base rfl)) ?_
            refine jg_adr _ rfl _ rfl rfl (op_move (.base rfl)) ?_
            refine jg_gd _ _ _ _ _ _ rfl rfl rfl rfl rfl (fun hg => op_ofield fld37_2 (.base rfl)) ?_
            refine jg_gd _ _ _ _ _ _ rfl rfl rfl rfl rfl (fun hg => op_oload ty3 (.gd rfl hg) rfl rfl ln37_2) ?_
            refine jg_gd _ _ _ _ _ _ rfl rfl rfl rfl rfl (fun hg => op_gtr (.gd rfl hg) (.base rfl)) ?_
            refine jg_adr _ rfl _ rfl rfl (op_pick_or (.base rfl) (.base rfl) rfl (by intro h; first | (rw [h]; rfl) | (rw [hg, h]; rfl) | (rw [h, hg]; rfl) | simp_all)) ?_
            refine jg_adr _ rfl _ rfl rfl (op_assign (.base rfl)) ?_
            refine jg_nil ?_
            refine jn_keep [0, 4, 5, 6, 11, 12, 13, 44] [6, 10] (.cons rfl (.cons rfl (.cons rfl (.cons rfl (.cons rfl (.cons rfl (.cons rfl (.cons rfl .nil)))))))) (.cons rfl (.cons rfl .nil)) ?_
            refine jn_seq ?_
            refine j_cond rfl (fun h11 => ?_) (fun h11 => ?_)
            · try simp at h11
              refine j_seq ?_
              refine j_region ?_
              refine jg_adr _ rfl _ rfl rfl (op_move (.base rfl)) ?_
              refine jg_adr _ rfl _ rfl rfl (op_assign (.base rfl)) ?_
              refine jg_adr _ rfl _ rfl rfl (op_assign (.base rfl)) ?_
              refine jg_nil ?_
              refine jn_keep [2, 3] [] (.cons rfl (.cons rfl .nil)) .nil ?_
              refine jn_seq (j_ret (jr_blk (jr_seq (jr_blk (jr_seq (jr_loop (jr_blk (jr_seq ?_))))))))
              exact jr_fin2 Try.results9 (res_tmp rfl) (res_tmp rfl) ⟨rfl, rfl⟩ (show SV.tup2 _ _ = SV.tup2 (.raw (.int .i64 (valL l).1)) (.raw (.int .i64 (valL l).2)) by rw [val_small (by omega) hp (err_at (e := 1) hk' (by unfold errAt; rw [List.getElem?_eq_getElem hk']; simp only [];  rw [if_neg (by omega), if_pos (by omega)]) (by decide))])
            · try simp at h11
              refine j_seq ?_
              refine j_draw mo (by kernel_rfl) (
                AS.cons _ _ rfl (ga_adr rfl rfl rfl (op_move (.base rfl))) (
                  AS.cons _ _ rfl (ga_adr rfl rfl rfl (op_gtr (.base rfl) (.base rfl))) (
                  AS.cons _ _ rfl (ga_adr rfl rfl rfl (op_move (.base rfl))) (
                  AS.cons _ _ rfl (ga_gd _ _ _ _ rfl rfl rfl rfl rfl (fun hg => op_ofield fld37_0 (.base rfl))) (
                  AS.cons _ _ rfl (ga_gd _ _ _ _ rfl rfl rfl rfl rfl (fun hg => op_oload ty3 (.gd rfl hg) rfl rfl ln37_0)) (
                  AS.cons _ _ rfl (ga_gd _ _ _ _ rfl rfl rfl rfl rfl (fun hg => op_move (.base rfl))) (
                  AS.cons _ _ rfl (ga_gd _ _ _ _ rfl rfl rfl rfl rfl (fun hg => op_move (.base rfl))) (
                  AS.cons _ _ rfl (ga_gd _ _ _ _ rfl rfl rfl rfl rfl (fun hg => op_sub (.gd rfl hg) (.base rfl) (w64 (by omega)))) (
                  AS.cons _ _ rfl (ga_gd _ _ _ _ rfl rfl rfl rfl rfl (fun hg => op_index Try.underlying22 ty37 (.gd rfl hg) (.gd rfl hg) (show (k : Int) - 1 = ((k - 1 : Nat) : Int) by simp at hg; omega) (getD_some (z := ((0, (0, (0, 0))) : TPosting)) (by first | omega | (simp; done) | (simp; omega) | (simp at hg; omega) | (simp at hg; simp; omega))))) (
                  AS.cons _ _ rfl (ga_gd _ _ _ _ rfl rfl rfl rfl rfl (fun hg => op_field fld37_0 ln37_0 (.gd rfl hg))) (
                  AS.cons _ _ rfl (ga_gd _ _ _ _ rfl rfl rfl rfl rfl (fun hg => op_load ty3 (.gd rfl hg))) (
                  AS.cons _ _ rfl (ga_gd _ _ _ _ rfl rfl rfl rfl rfl (fun hg => op_lss (.gd rfl hg) (.gd rfl hg))) (
                  AS.cons _ _ rfl (ga_adr rfl rfl rfl (op_pick_and (.base rfl) (.base rfl) rfl (by intro h; first | (rw [h]; rfl) | (rw [hg, h]; rfl) | (rw [h, hg]; rfl) | simp_all))) (
                  AS.cons _ _ rfl (ga_adr rfl rfl rfl (op_assign (.base rfl))) (
                  AS.nil))))))))))))))) ?_
              refine jn_keep [0, 4, 5, 6, 11, 12, 13, 54] [6, 10] (.cons rfl (.cons rfl (.cons rfl (.cons rfl (.cons rfl (.cons rfl (.cons rfl (.cons rfl .nil)))))))) (.cons rfl (.cons rfl .nil)) ?_
              refine jn_seq ?_
              refine j_cond rfl (fun h13 => ?_) (fun h13 => ?_)
              · have hord : 0 < k ∧ l[k].1 < (l[k - 1]?.getD ((0, 0, 0, 0) : Po)).1 := by simp at h13; exact h13
                refine j_seq ?_
                refine j_region ?_
                refine jg_adr _ rfl _ rfl rfl (op_move (.base rfl)) ?_
                refine jg_adr _ rfl _ rfl rfl (op_assign (.base rfl)) ?_
                refine jg_adr _ rfl _ rfl rfl (op_assign (.base rfl)) ?_
                refine jg_nil ?_
                refine jn_keep [2, 3] [] (.cons rfl (.cons rfl .nil)) .nil ?_
                refine jn_seq (j_ret (jr_blk (jr_seq (jr_blk (jr_seq (jr_loop (jr_blk (jr_seq ?_))))))))
                exact jr_fin2 Try.results9 (res_tmp rfl) (res_tmp rfl) ⟨rfl, rfl⟩ (show SV.tup2 _ _ = SV.tup2 (.raw (.int .i64 (valL l).1)) (.raw (.int .i64 (valL l).2)) by rw [val_small (by omega) hp (err_at (e := 9) hk' (by unfold errAt; rw [List.getElem?_eq_getElem hk']; simp only [];  rw [if_neg (by omega), if_neg (by omega), if_pos hord]) (by decide))])
              · have hord : ¬ (0 < k ∧ l[k].1 < (l[k - 1]?.getD ((0, 0, 0, 0) : Po)).1) := by rintro ⟨a1, a2⟩; simp at h13; have := h13 a1; omega
                refine j_skip (jn_blk (jn_seq (j_seq ?_)))
                have hwf : (Lit.int .i64 l[k].2.1).wf = true := by
                  have h1 : IntKind.i64.min = -9223372036854775808 := by kernel_rfl
                  have h2 : IntKind.i64.max = 9223372036854775807 := by kernel_rfl
                  simp only [Lit.wf, Bool.and_eq_true, decide_eq_true_eq]; omega
                have hrs : recvL (l.take (k + 1)) l[k].2.1 = (W64 (recvL (l.take k) l[k].2.1 + amt l[k])) := by have := congrFun (recv_upd hk') l[k].2.1; simp only [upd, if_pos] at this; exact this
                refine j_drawE mo (by kernel_rfl) (
                  AE.cons _ _ _ rfl (gh_ga [10] (ga_adr rfl rfl rfl (op_move (.base rfl))) (by kernel_rfl)) (
                  AE.cons _ _ _ rfl (gh_ga [6] (ga_adr rfl rfl rfl (op_ofield fld37_1 (.base rfl))) (by kernel_rfl)) (
                  AE.cons _ _ _ rfl (gh_ga [6] (ga_adr rfl rfl rfl (op_oload ty3 (.base rfl) rfl rfl ln37_1)) (by kernel_rfl)) (
                  AE.cons _ _ _ rfl (gh_ga [10] (ga_adr rfl rfl rfl ((show Adr _ _ _ _ (.raw (Value.int .i64 (recvL (l.take k) l[k].2.1))) from op_lookup (E := mE40) (f := fun m => recvL (l.take k) m) Try.underlying40 Try.underlying3 (.base rfl) rfl (.base rfl) (by assumption)))) (by kernel_rfl)) (
                  AE.cons _ _ _ rfl (gh_ga [6] (ga_adr rfl rfl rfl (op_oload ty37 (.base rfl) rfl rfl (Lens.id _))) (by kernel_rfl)) (
                  AE.cons _ _ _ rfl (gh_ga [] (ga_adr rfl rfl rfl (op_call (amount_ok _) (.cons (.base rfl) .nil) rfl rfl)) (by kernel_rfl)) (
                  AE.cons _ _ _ rfl (gh_ga [] (ga_adr rfl rfl rfl (op_add (.base rfl) (.base rfl) rfl)) (by kernel_rfl)) (
                  AE.cons _ _ _ rfl (gh_mapUpdate (E := mE40) (v := (W64 (recvL (l.take k) l[k].2.1 + amt l[k]))) Try.underlying40 Try.underlying3 (.base rfl) rfl (.base rfl) (.base rfl) (by assumption) (W_ok _) (by unfold maxLen; omega)) (
                  AE.nil))))))))) (by kernel_rfl) ?_
                refine jn_keep [0, 4, 5, 6, 11, 12, 13] [6, 10] (.cons rfl (.cons rfl (.cons rfl (.cons rfl (.cons rfl (.cons rfl (.cons rfl .nil))))))) (.cons rfl (.cons rfl .nil)) ?_
                refine jn_seq (j_seq ?_)
                refine j_region ?_
                refine jg_adr _ rfl _ rfl rfl (op_move (.base rfl)) ?_
                refine jg_adr _ rfl _ rfl rfl (op_ofield fld37_1 (.base rfl)) ?_
                refine jg_adr _ rfl _ rfl rfl (op_oload ty3 (.base rfl) rfl rfl ln37_1) ?_
                refine jg_adr _ rfl _ rfl rfl ((show Adr _ _ _ _ (.raw (Value.int .i64 (upd (fun m => recvL (l.take k) m) l[k].2.1 (W64 (recvL (l.take k) l[k].2.1 + amt l[k])) l[k].2.1))) from op_lookup (E := mE40) (f := upd (fun m => recvL (l.take k) m) l[k].2.1 (W64 (recvL (l.take k) l[k].2.1 + amt l[k]))) Try.underlying40 Try.underlying3 (.base rfl) rfl (.base rfl) (by assumption))) ?_
                refine jg_adr _ rfl _ rfl rfl (op_lss (.base rfl) (.base rfl)) ?_
                refine jg_nil ?_
                refine jn_keep [0, 4, 5, 11, 12, 13, 80] [10] (.cons rfl (.cons rfl (.cons rfl (.cons rfl (.cons rfl (.cons rfl (.cons rfl .nil))))))) (.cons rfl .nil) ?_
                refine jn_seq ?_
                refine j_cond rfl (fun h16 => ?_) (fun h16 => ?_)
                · simp only [upd, if_pos] at h16; simp at h16
                  refine j_seq ?_
                  refine j_region ?_
                  refine jg_adr _ rfl _ rfl rfl (op_move (.base rfl)) ?_
                  refine jg_adr _ rfl _ rfl rfl (op_assign (.base rfl)) ?_
                  refine jg_adr _ rfl _ rfl rfl (op_assign (.base rfl)) ?_
                  refine jg_nil ?_
                  refine jn_keep [2, 3] [] (.cons rfl (.cons rfl .nil)) .nil ?_
                  refine jn_seq (j_ret (jr_blk (jr_seq (jr_loop (jr_blk (jr_seq ?_))))))
                  exact jr_fin2 Try.results9 (res_tmp rfl) (res_tmp rfl) ⟨rfl, rfl⟩ (show SV.tup2 _ _ = SV.tup2 (.raw (.int .i64 (valL l).1)) (.raw (.int .i64 (valL l).2)) by rw [val_small (by omega) hp (err_at (e := 13) hk' (by unfold errAt; rw [List.getElem?_eq_getElem hk']; simp only [];  rw [if_neg (by omega), if_neg (by omega), if_neg hord, if_pos (by omega)]) (by decide))])
                · simp only [upd, if_pos] at h16; simp at h16
                  refine j_skip (jn_blk (jn_seq ?_))
                  refine j_region ?_
                  refine jg_adr _ rfl _ rfl rfl (op_add (.base rfl) (.base rfl) (w64 (by omega))) ?_
                  refine jg_adr _ rfl _ rfl rfl (op_move (.base rfl)) ?_
                  refine jg_nil ?_
                  refine jn_keep [0, 4, 11, 12, 13] [10] (.cons rfl (.cons rfl (.cons rfl (.cons rfl (.cons rfl .nil))))) (.cons rfl .nil) ?_
                  exact jn_loop (fun a w hi => ⟨k + 1, (by first | omega | (simp; omega)), (⟨by omega, by rw [← hp, ← err_no hk' (by unfold errAt; rw [List.getElem?_eq_getElem hk']; simp only []; rw [if_neg (by omega), if_neg (by omega), if_neg hord, if_neg (by omega)])]⟩), (Sub.inv ⟨(by repeat (first | exact SubS_nil | refine SubS_cons rfl (by first | rfl | (simp; done) | assumption) ?_)), (by repeat (first | exact SubH_nil | refine SubH_cons rfl (by first | rfl | (refine congrArg (HB.mk (rMap Try.prog 3 3 mE40)) ?_; rw [recv_upd hk']; done)) ?_))⟩ hi)⟩)
    · try simp at h5
      refine j_exit (je_seq (je_loop (je_blk (jn_seq (j_seq ?_)))))
      refine j_region ?_
      refine jg_adr _ rfl _ rfl rfl (op_assign (.base rfl)) ?_
      refine jg_adr _ rfl _ rfl rfl (op_assign (.base rfl)) ?_
      refine jg_nil ?_
      refine jn_keep [2, 3] [] (.cons rfl (.cons rfl .nil)) .nil ?_
      refine jn_seq (j_ret ?_)
      exact jr_fin2 Try.results9 (res_tmp rfl) (res_tmp rfl) ⟨rfl, rfl⟩ (show SV.tup2 _ _ = SV.tup2 (.raw (.int .i64 (valL l).1)) (.raw (.int .i64 (valL l).2)) by rw [val_small (by omega) hp (valK_end (by omega))])

end Go.Proofs.Ytmpgmhcbhkhakaa
