import Derived.Test.YtcdkmhmlpjnfeaaP12i
namespace Go.Proofs.Ytcdkmhmlpjnfeaa
open Go.Eng
set_option maxRecDepth 100000
set_option maxHeartbeats 4000000
set_option linter.unusedVariables false
set_option linter.unusedSimpArgs false

theorem rcontr_I {q n : Int} (hl : 0 < q ∧ q ≤ 1000000000000000) (hn : -9223372036854775808 ≤ n ∧ n ≤ 9223372036854775807) : Ct Try.prog 52 [.raw (.int .i64 q), .raw (.int .i64 n)] (svIIB (contr q n)) := by
  obtain ⟨p, rfl⟩ : ∃ p : Nat, q = (p : Int) := ⟨q.toNat, by omega⟩
  exact rcontr_ok p n (by omega) hn

theorem rbrackets_ok (t : TTable) (date c mode : Int) (hl : t.2.2.2.length ≤ 100) (hN : ∀ x ∈ t.2.2.2, -9223372036854775808 ≤ x.2.2.2 ∧ x.2.2.2 ≤ 9223372036854775807) : Ct Try.prog 22 [.tv rTable t, .raw (.int .i64 date), .raw (.int .i64 c), .raw (.int .i64 mode)] (svI2 (brackR t date c mode)) := by
  refine ct_intro Try.func22 rfl rfl Try.ntmps22 rfl rfl ?_
  intro w0 ok0
  refine j_seq ?_
  refine j_region ?_
  refine jg_os _ rfl (op_box (.tv (.base rfl)) rfl rfl rfl) ?_
  refine jg_adr _ rfl _ rfl rfl (op_assign (.base rfl)) ?_
  refine jg_adr _ rfl _ rfl rfl (op_assign (.base rfl)) ?_
  refine jg_nil ?_
  refine jn_keep [1, 2, 3, 4] [4] (.cons rfl (.cons rfl (.cons rfl (.cons rfl .nil)))) (.cons rfl .nil) ?_
  refine jn_seq (j_seq (j_seq ?_))
  refine j_region ?_
  refine jg_adr _ rfl _ rfl rfl (op_move (.base rfl)) ?_
  refine jg_adr _ rfl _ rfl rfl (op_call (rmode_ok _) (.cons (.base rfl) .nil) rfl rfl) ?_
  refine jg_adr _ rfl _ rfl rfl (op_not (.base rfl)) ?_
  refine jg_nil ?_
  refine jn_keep [1, 2, 3, 4, 21] [4] (.cons rfl (.cons rfl (.cons rfl (.cons rfl (.cons rfl .nil))))) (.cons rfl .nil) ?_
  refine jn_seq ?_
  refine j_cond rfl (fun h1 => ?_) (fun h1 => ?_)
  · have h1 : modeOk mode = false := by simpa using h1
    refine j_seq ?_
    refine j_region ?_
    refine jg_adr _ rfl _ rfl rfl (op_assign (.base rfl)) ?_
    refine jg_adr _ rfl _ rfl rfl (op_assign (.base rfl)) ?_
    refine jg_nil ?_
    refine jn_keep [8, 9] [] (.cons rfl (.cons rfl .nil)) .nil ?_
    refine jn_seq (j_ret (jr_seq ?_))
    exact jr_fin2 Try.results22 (res_tmp rfl) (res_tmp rfl) ⟨rfl, rfl⟩ (svI2_eq (by unfold brackR; rw [if_pos h1]))
  · have h1 : modeOk mode = true := by simpa using h1
    refine j_skip (jn_seq (j_seq (j_seq ?_)))
    refine j_region ?_
    refine jg_adr _ rfl _ rfl rfl (op_ofield fld26_1 (.base rfl)) ?_
    refine jg_adr _ rfl _ rfl rfl (op_oload ty23 (.base rfl) rfl rfl ln26_1) ?_
    refine jg_adr _ rfl _ rfl rfl (op_build z23 rfl pl23 (.cons (rt' := (rInt .i64)) rfl ln23_0 (.raw (.base rfl) rfl) .nil)) ?_
    refine jg_adr _ rfl _ rfl rfl (op_sneq eq23 rfl rfl eg23 (.tv (.base rfl)) (.tv (.base rfl))) ?_
    refine jg_adr _ rfl _ rfl rfl (op_move (.base rfl)) ?_
    refine jg_gd _ _ _ _ _ _ rfl rfl rfl rfl rfl (fun hg => op_ofield fld26_2 (.base rfl)) ?_
    refine jg_gd _ _ _ _ _ _ rfl rfl rfl rfl rfl (fun hg => op_oload ty23 (.gd rfl hg) rfl rfl ln26_2) ?_
    refine jg_gd _ _ _ _ _ _ rfl rfl rfl rfl rfl (fun hg => op_build z23 rfl pl23 (.cons (rt' := (rInt .i64)) rfl ln23_0 (.raw (.base rfl) rfl) .nil)) ?_
    refine jg_gd _ _ _ _ _ _ rfl rfl rfl rfl rfl (fun hg => op_sneq eq23 rfl rfl eg23 (.tv (.gd rfl hg)) (.tv (.gd rfl hg))) ?_
    refine jg_adr _ rfl _ rfl rfl (op_pick_or (.base rfl) (.base rfl) rfl (by intro h; first | (rw [h]; rfl) | (rw [hg, h]; rfl) | (rw [h, hg]; rfl) | simp_all)) ?_
    refine jg_nil ?_
    refine jn_keep [1, 2, 3, 4, 31] [4] (.cons rfl (.cons rfl (.cons rfl (.cons rfl (.cons rfl .nil))))) (.cons rfl .nil) ?_
    refine jn_seq ?_
    refine j_cond rfl (fun h3 => ?_) (fun h3 => ?_)
    · skip
      refine j_seq ?_
      refine j_region ?_
      refine jg_adr _ rfl _ rfl rfl (op_assign (.base rfl)) ?_
      refine jg_adr _ rfl _ rfl rfl (op_assign (.base rfl)) ?_
      refine jg_nil ?_
      refine jn_keep [8, 9] [] (.cons rfl (.cons rfl .nil)) .nil ?_
      refine jn_seq (j_ret (jr_seq ?_))
      exact jr_fin2 Try.results22 (res_tmp rfl) (res_tmp rfl) ⟨rfl, rfl⟩ (svI2_eq (by unfold brackR; rw [if_neg (by rw [h1]; simp), if_pos h3]))
    · skip
      refine j_skip (jn_seq (j_seq (j_seq ?_)))
      refine j_region ?_
      refine jg_adr _ rfl _ rfl rfl (op_move (.base rfl)) ?_
      refine jg_adr _ rfl _ rfl rfl (op_call (rbeyond_ok _ _ (by omega)) (.cons (.base rfl) (.cons (.base rfl) .nil)) rfl rfl) ?_
      refine jg_nil ?_
      refine jn_keep [1, 2, 3, 4, 33] [4] (.cons rfl (.cons rfl (.cons rfl (.cons rfl (.cons rfl .nil))))) (.cons rfl .nil) ?_
      refine jn_seq ?_
      refine j_cond rfl (fun h5 => ?_) (fun h5 => ?_)
      · skip
        refine j_seq ?_
        refine j_region ?_
        refine jg_adr _ rfl _ rfl rfl (op_assign (.base rfl)) ?_
        refine jg_adr _ rfl _ rfl rfl (op_assign (.base rfl)) ?_
        refine jg_nil ?_
        refine jn_keep [8, 9] [] (.cons rfl (.cons rfl .nil)) .nil ?_
        refine jn_seq (j_ret (jr_seq ?_))
        exact jr_fin2 Try.results22 (res_tmp rfl) (res_tmp rfl) ⟨rfl, rfl⟩ (svI2_eq (by unfold brackR; rw [if_neg (by rw [h1]; simp), if_neg (by rw [h3]; simp), if_pos h5]))
      · have k5 := byd_f h5
        refine j_skip (jn_seq (j_seq ?_))
        refine j_region ?_
        refine jg_adr _ rfl _ rfl rfl (op_assign (.base rfl)) ?_
        refine jg_adr _ rfl _ rfl rfl (op_assign (.base rfl)) ?_
        refine jg_nil ?_
        refine jn_keep [1, 2, 3, 4, 10, 11] [4] (.cons rfl (.cons rfl (.cons rfl (.cons rfl (.cons rfl (.cons rfl .nil)))))) (.cons rfl .nil) ?_
        refine jn_seq (j_seq (j_seq ?_))
        refine j_region ?_
        refine jg_adr _ rfl _ rfl rfl (op_assign (.base rfl)) ?_
        refine jg_nil ?_
        refine jn_keep [1, 2, 3, 4, 10, 11, 12] [4] (.cons rfl (.cons rfl (.cons rfl (.cons rfl (.cons rfl (.cons rfl (.cons rfl .nil))))))) (.cons rfl .nil) ?_
        refine jn_seq (j_block ?_)
        refine j_loopp (ι := Nat × Int × Int) (fun (k, A, B) => ⟨[(1, .raw (.int .i64 (date))), (2, .raw (.int .i64 (c))), (3, .raw (.int .i64 (mode))), (4, .optr 4 rTable.n 0 0), (10, .raw (.int .i64 (A))), (11, .raw (.int .i64 (B))), (12, .raw (.int .i64 ((k : Nat))))], [(4, ⟨rTable, [t]⟩)]⟩) (fun (k, A, B) => k ≤ t.2.2.2.length ∧ brkF date c A B (t.2.2.2.drop k) = brkF date c 0 0 t.2.2.2 ∧ (-(k * 1000000000000000 : Int) ≤ A ∧ A ≤ k * 1000000000000000) ∧ (-(k * 1000000 : Int) ≤ B ∧ B ≤ k * 1000000)) (fun (k, A, B) => t.2.2.2.length - k) (0, 0, 0) (⟨Nat.zero_le _, rfl, by omega, by omega⟩) (fun a w hi => (Sub.inv ⟨(by repeat (first | exact SubS_nil | refine SubS_cons rfl (by first | rfl | (simp; done) | assumption) ?_)), (by repeat (first | exact SubH_nil | refine SubH_cons rfl (by first | rfl | (simp; done) | assumption) ?_))⟩ hi)) ?_
        rintro ⟨k, A, B⟩ ⟨p1, p2, p3, p4⟩
        refine j_seq (j_seq ?_)
        refine j_region ?_
        refine jg_adr _ rfl _ rfl rfl (op_move (.base rfl)) ?_
        refine jg_adr _ rfl _ rfl rfl (op_ofield fld26_3 (.base rfl)) ?_
        refine jg_adr _ rfl _ rfl rfl (op_oload ty24 (.base rfl) rfl rfl ln26_3) ?_
        refine jg_adr _ rfl _ rfl rfl (op_len Try.underlying24 (.base rfl)) ?_
        refine jg_adr _ rfl _ rfl rfl (op_lss (.base rfl) (.base rfl)) ?_
        refine jg_nil ?_
        refine jn_keep [1, 2, 3, 4, 10, 11, 12, 38] [4] (.cons rfl (.cons rfl (.cons rfl (.cons rfl (.cons rfl (.cons rfl (.cons rfl (.cons rfl .nil)))))))) (.cons rfl .nil) ?_
        refine jn_seq ?_
        refine j_cond rfl (fun h9 => ?_) (fun h9 => ?_)
        · simp at h9
          have hd := List.drop_eq_getElem_cons h9
          have hn := hN _ (List.getElem_mem h9)
          have hcb := contr_bd (len := hiP (t.2.2.2[k]) c - loP (t.2.2.2[k])) (n := (t.2.2.2[k]).2.2.2)
          refine j_skip (jn_seq (j_seq (j_block (j_seq ?_))))
          refine j_draw mo (by kernel_rfl) (
            AS.cons _ _ rfl (ga_adr rfl rfl rfl (op_ofield fld26_3 (.base rfl))) (
              AS.cons _ _ rfl (ga_adr rfl rfl rfl (op_oload ty24 (.base rfl) rfl rfl ln26_3)) (
              AS.cons _ _ rfl (ga_adr rfl rfl rfl (op_move (.base rfl))) (
              AS.cons _ _ rfl (ga_adr rfl rfl rfl (op_index Try.underlying24 ty50 (.base rfl) (.base rfl) rfl (List.getElem?_eq_getElem (by first | omega | (simp; done) | (simp; omega) | (simp at hg; omega))))) (
              AS.cons _ _ rfl (ga_adr rfl rfl rfl (op_field fld50_1 ln50_1 (.base rfl))) (
              AS.cons _ _ rfl (ga_adr rfl rfl rfl (op_load ty3 (.base rfl))) (
              AS.cons _ _ rfl (ga_adr rfl rfl rfl (op_max (.base rfl) (.base rfl))) (
              AS.cons _ _ rfl (ga_adr rfl rfl rfl (op_ofield fld26_3 (.base rfl))) (
              AS.cons _ _ rfl (ga_adr rfl rfl rfl (op_oload ty24 (.base rfl) rfl rfl ln26_3)) (
              AS.cons _ _ rfl (ga_adr rfl rfl rfl (op_move (.base rfl))) (
              AS.cons _ _ rfl (ga_adr rfl rfl rfl (op_index Try.underlying24 ty50 (.base rfl) (.base rfl) rfl (List.getElem?_eq_getElem (by first | omega | (simp; done) | (simp; omega) | (simp at hg; omega))))) (
              AS.cons _ _ rfl (ga_adr rfl rfl rfl (op_field fld50_2 ln50_2 (.base rfl))) (
              AS.cons _ _ rfl (ga_adr rfl rfl rfl (op_load ty3 (.base rfl))) (
              AS.cons _ _ rfl (ga_adr rfl rfl rfl (op_move (.base rfl))) (
              AS.cons _ _ rfl (ga_adr rfl rfl rfl (op_min (.base rfl) (.base rfl))) (
              AS.cons _ _ rfl (ga_adr rfl rfl rfl (op_assign (.base rfl))) (
              AS.cons _ _ rfl (ga_adr rfl rfl rfl (op_assign (.base rfl))) (
              AS.nil)))))))))))))))))) ?_
          refine jn_keep [1, 2, 3, 4, 10, 11, 12, 13, 14] [4] (.cons rfl (.cons rfl (.cons rfl (.cons rfl (.cons rfl (.cons rfl (.cons rfl (.cons rfl (.cons rfl .nil))))))))) (.cons rfl .nil) ?_
          refine jn_seq (j_seq (j_seq ?_))
          refine j_region ?_
          refine jg_adr _ rfl _ rfl rfl (op_move (.base rfl)) ?_
          refine jg_adr _ rfl _ rfl rfl (op_move (.base rfl)) ?_
          refine jg_adr _ rfl _ rfl rfl (op_geq (.base rfl) (.base rfl)) ?_
          refine jg_adr _ rfl _ rfl rfl (op_move (.base rfl)) ?_
          refine jg_gd _ _ _ _ _ _ rfl rfl rfl rfl rfl (fun hg => op_ofield fld26_3 (.base rfl)) ?_
          refine jg_gd _ _ _ _ _ _ rfl rfl rfl rfl rfl (fun hg => op_oload ty24 (.gd rfl hg) rfl rfl ln26_3) ?_
          refine jg_gd _ _ _ _ _ _ rfl rfl rfl rfl rfl (fun hg => op_move (.base rfl)) ?_
          refine jg_gd _ _ _ _ _ _ rfl rfl rfl rfl rfl (fun hg => op_index Try.underlying24 ty50 (.gd rfl hg) (.gd rfl hg) rfl (getD_some (z := (((0, 0), (0, (0, 0))) : TRow)) (by first | omega | (simp; done) | (simp; omega) | (simp at hg; omega) | (simp at hg; simp; omega)))) ?_
          refine jg_gd _ _ _ _ _ _ rfl rfl rfl rfl rfl (fun hg => op_field fld50_0 ln50_0 (.gd rfl hg)) ?_
          refine jg_gd _ _ _ _ _ _ rfl rfl rfl rfl rfl (fun hg => op_load ty48 (.gd rfl hg)) ?_
          refine jg_gd _ _ _ _ _ _ rfl rfl rfl rfl rfl (fun hg => op_move (.base rfl)) ?_
          refine jg_gd _ _ _ _ _ _ rfl rfl rfl rfl rfl (fun hg => op_call (drcont_ok _ _) (.cons (.gd rfl hg) (.cons (.gd rfl hg) .nil)) rfl rfl) ?_
          refine jg_gd _ _ _ _ _ _ rfl rfl rfl rfl rfl (fun hg => op_not (.gd rfl hg)) ?_
          refine jg_adr _ rfl _ rfl rfl (op_pick_or (.base rfl) (.base rfl) rfl (by intro h; first | (rw [h]; rfl) | (rw [hg, h]; rfl) | (rw [h, hg]; rfl) | simp_all)) ?_
          refine jg_nil ?_
          refine jn_keep [1, 2, 3, 4, 10, 11, 12, 13, 14, 69] [4] (.cons rfl (.cons rfl (.cons rfl (.cons rfl (.cons rfl (.cons rfl (.cons rfl (.cons rfl (.cons rfl (.cons rfl .nil)))))))))) (.cons rfl .nil) ?_
          refine jn_seq ?_
          refine j_cond rfl (fun h12 => ?_) (fun h12 => ?_)
          · have h12 : (!(contR (t.2.2.2[k]).1 date) || decide (loP (t.2.2.2[k]) ≥ hiP (t.2.2.2[k]) c)) = true := by have z := h12; rw [Bool.or_comm] at z; first | exact z | (simp only [List.getElem?_eq_getElem h9, Option.getD_some] at z; exact z)
            refine j_exit (je_seq (je_blk (jn_seq ?_)))
            refine j_region ?_
            refine jg_adr _ rfl _ rfl rfl (op_move (.base rfl)) ?_
            refine jg_adr _ rfl _ rfl rfl (op_add (.base rfl) (.base rfl) (w64 (by omega))) ?_
            refine jg_adr _ rfl _ rfl rfl (op_assign (.base rfl)) ?_
            refine jg_nil ?_
            refine jn_keep [1, 2, 3, 4, 10, 11, 12] [4] (.cons rfl (.cons rfl (.cons rfl (.cons rfl (.cons rfl (.cons rfl (.cons rfl .nil))))))) (.cons rfl .nil) ?_
            first | (exact jn_loop (fun a w hi => ⟨(k + 1, A, B), (by show t.2.2.2.length - (k + 1) < t.2.2.2.length - k; omega), ⟨by omega, by rw [← p2, hd, brkF, if_pos h12], by omega, by omega⟩, (Sub.inv ⟨(by repeat (first | exact SubS_nil | refine SubS_cons rfl (by first | rfl | (simp; done)) ?_)), (by repeat (first | exact SubH_nil | refine SubH_cons rfl (by first | rfl | (simp; done) | assumption) ?_))⟩ hi)⟩)) | (exact jn_loop (fun a w hi => ⟨(k + 1, A + (contr (hiP (t.2.2.2[k]) c - loP (t.2.2.2[k])) (t.2.2.2[k]).2.2.2).1, B + (contr (hiP (t.2.2.2[k]) c - loP (t.2.2.2[k])) (t.2.2.2[k]).2.2.2).2.1), (by show t.2.2.2.length - (k + 1) < t.2.2.2.length - k; omega), ⟨by omega, by rw [← p2, hd, brkF, if_neg (by rw [h12]; simp), if_neg (by rw [h14]; simp)], by omega, by omega⟩, (Sub.inv ⟨(by repeat (first | exact SubS_nil | refine SubS_cons rfl (by first | rfl | (simp; done)) ?_)), (by repeat (first | exact SubH_nil | refine SubH_cons rfl (by first | rfl | (simp; done) | assumption) ?_))⟩ hi)⟩))
          · have h12 : (!(contR (t.2.2.2[k]).1 date) || decide (loP (t.2.2.2[k]) ≥ hiP (t.2.2.2[k]) c)) = false := by have z := h12; rw [Bool.or_comm] at z; first | exact z | (simp only [List.getElem?_eq_getElem h9, Option.getD_some] at z; exact z)
            have k12 := of_decide_eq_false (orF h12).2
            have k13 : 0 ≤ loP (t.2.2.2[k]) ∧ hiP (t.2.2.2[k]) c ≤ c := by unfold loP hiP; omega
            refine j_skip (jn_seq (j_seq ?_))
            refine j_region ?_
            refine jg_adr _ rfl _ rfl rfl (op_move (.base rfl)) ?_
            refine jg_adr _ rfl _ rfl rfl (op_move (.base rfl)) ?_
            refine jg_adr _ rfl _ rfl rfl (op_sub (.base rfl) (.base rfl) (w64c (show _ = hiP (t.2.2.2[k]) c - loP (t.2.2.2[k]) from rfl) (by omega))) ?_
            refine jg_adr _ rfl _ rfl rfl (op_ofield fld26_3 (.base rfl)) ?_
            refine jg_adr _ rfl _ rfl rfl (op_oload ty24 (.base rfl) rfl rfl ln26_3) ?_
            refine jg_adr _ rfl _ rfl rfl (op_move (.base rfl)) ?_
            refine jg_adr _ rfl _ rfl rfl (op_index Try.underlying24 ty50 (.base rfl) (.base rfl) rfl (List.getElem?_eq_getElem (by first | omega | (simp; done) | (simp; omega) | (simp at hg; omega)))) ?_
            refine jg_adr _ rfl _ rfl rfl (op_field fld50_3 ln50_3 (.base rfl)) ?_
            refine jg_adr _ rfl _ rfl rfl (op_load ty3 (.base rfl)) ?_
            refine jg_adr _ rfl _ rfl rfl (op_call (rcontr_I (by omega) hn) (.cons (.base rfl) (.cons (.base rfl) .nil)) rfl rfl) ?_
            refine jg_adr _ rfl _ rfl rfl (op_move (.base rfl)) ?_
            refine jg_adr _ rfl _ rfl rfl (op_ext30 (.base rfl)) ?_
            refine jg_adr _ rfl _ rfl rfl (op_ext31 (.base rfl)) ?_
            refine jg_adr _ rfl _ rfl rfl (op_ext32 (.base rfl)) ?_
            refine jg_adr _ rfl _ rfl rfl (op_assign (.base rfl)) ?_
            refine jg_adr _ rfl _ rfl rfl (op_assign (.base rfl)) ?_
            refine jg_adr _ rfl _ rfl rfl (op_assign (.base rfl)) ?_
            refine jg_nil ?_
            refine jn_keep [1, 2, 3, 4, 10, 11, 12, 15, 16, 17] [4] (.cons rfl (.cons rfl (.cons rfl (.cons rfl (.cons rfl (.cons rfl (.cons rfl (.cons rfl (.cons rfl (.cons rfl .nil)))))))))) (.cons rfl .nil) ?_
            refine jn_seq (j_seq (j_seq ?_))
            refine j_region ?_
            refine jg_adr _ rfl _ rfl rfl (op_move (.base rfl)) ?_
            refine jg_adr _ rfl _ rfl rfl (op_not (.base rfl)) ?_
            refine jg_nil ?_
            refine jn_keep [1, 2, 3, 4, 10, 11, 12, 15, 16, 85] [4] (.cons rfl (.cons rfl (.cons rfl (.cons rfl (.cons rfl (.cons rfl (.cons rfl (.cons rfl (.cons rfl (.cons rfl .nil)))))))))) (.cons rfl .nil) ?_
            refine jn_seq ?_
            refine j_cond rfl (fun h14 => ?_) (fun h14 => ?_)
            · have h14 : (contr (hiP (t.2.2.2[k]) c - loP (t.2.2.2[k])) (t.2.2.2[k]).2.2.2).2.2 = false := by simpa using h14
              refine j_seq ?_
              refine j_region ?_
              refine jg_adr _ rfl _ rfl rfl (op_assign (.base rfl)) ?_
              refine jg_adr _ rfl _ rfl rfl (op_assign (.base rfl)) ?_
              refine jg_nil ?_
              refine jn_keep [8, 9] [] (.cons rfl (.cons rfl .nil)) .nil ?_
              refine jn_seq (j_ret (jr_seq (jr_blk (jr_seq (jr_loop (jr_blk (jr_seq ?_)))))))
              exact jr_fin2 Try.results22 (res_tmp rfl) (res_tmp rfl) ⟨rfl, rfl⟩ (svI2_eq (by unfold brackR; rw [if_neg (by rw [h1]; simp), if_neg (by rw [h3]; simp), if_neg (by rw [h5]; simp), ← p2, hd, brkF, if_neg (by rw [h12]; simp), if_pos h14]))
            · have h14 : (contr (hiP (t.2.2.2[k]) c - loP (t.2.2.2[k])) (t.2.2.2[k]).2.2.2).2.2 = true := by simpa using h14
              refine j_skip (jn_seq (j_seq ?_))
              refine j_region ?_
              refine jg_adr _ rfl _ rfl rfl (op_move (.base rfl)) ?_
              refine jg_adr _ rfl _ rfl rfl (op_move (.base rfl)) ?_
              refine jg_adr _ rfl _ rfl rfl (op_add (.base rfl) (.base rfl) (w64 (by omega))) ?_
              refine jg_adr _ rfl _ rfl rfl (op_assign (.base rfl)) ?_
              refine jg_nil ?_
              refine jn_keep [1, 2, 3, 4, 10, 11, 12, 16] [4] (.cons rfl (.cons rfl (.cons rfl (.cons rfl (.cons rfl (.cons rfl (.cons rfl (.cons rfl .nil)))))))) (.cons rfl .nil) ?_
              refine jn_seq ?_
              refine j_region ?_
              refine jg_adr _ rfl _ rfl rfl (op_move (.base rfl)) ?_
              refine jg_adr _ rfl _ rfl rfl (op_move (.base rfl)) ?_
              refine jg_adr _ rfl _ rfl rfl (op_add (.base rfl) (.base rfl) (w64 (by omega))) ?_
              refine jg_adr _ rfl _ rfl rfl (op_assign (.base rfl)) ?_
              refine jg_nil ?_
              refine jn_keep [1, 2, 3, 4, 10, 11, 12] [4] (.cons rfl (.cons rfl (.cons rfl (.cons rfl (.cons rfl (.cons rfl (.cons rfl .nil))))))) (.cons rfl .nil) ?_
              refine jn_blk (jn_seq ?_)
              refine j_region ?_
              refine jg_adr _ rfl _ rfl rfl (op_move (.base rfl)) ?_
              refine jg_adr _ rfl _ rfl rfl (op_add (.base rfl) (.base rfl) (w64 (by omega))) ?_
              refine jg_adr _ rfl _ rfl rfl (op_assign (.base rfl)) ?_
              refine jg_nil ?_
              refine jn_keep [1, 2, 3, 4, 10, 11, 12] [4] (.cons rfl (.cons rfl (.cons rfl (.cons rfl (.cons rfl (.cons rfl (.cons rfl .nil))))))) (.cons rfl .nil) ?_
              first | (exact jn_loop (fun a w hi => ⟨(k + 1, A, B), (by show t.2.2.2.length - (k + 1) < t.2.2.2.length - k; omega), ⟨by omega, by rw [← p2, hd, brkF, if_pos h12], by omega, by omega⟩, (Sub.inv ⟨(by repeat (first | exact SubS_nil | refine SubS_cons rfl (by first | rfl | (simp; done)) ?_)), (by repeat (first | exact SubH_nil | refine SubH_cons rfl (by first | rfl | (simp; done) | assumption) ?_))⟩ hi)⟩)) | (exact jn_loop (fun a w hi => ⟨(k + 1, A + (contr (hiP (t.2.2.2[k]) c - loP (t.2.2.2[k])) (t.2.2.2[k]).2.2.2).1, B + (contr (hiP (t.2.2.2[k]) c - loP (t.2.2.2[k])) (t.2.2.2[k]).2.2.2).2.1), (by show t.2.2.2.length - (k + 1) < t.2.2.2.length - k; omega), ⟨by omega, by rw [← p2, hd, brkF, if_neg (by rw [h12]; simp), if_neg (by rw [h14]; simp)], by omega, by omega⟩, (Sub.inv ⟨(by repeat (first | exact SubS_nil | refine SubS_cons rfl (by first | rfl | (simp; done)) ?_)), (by repeat (first | exact SubH_nil | refine SubH_cons rfl (by first | rfl | (simp; done) | assumption) ?_))⟩ hi)⟩))
        · simp at h9
          refine j_exit (je_seq (je_loop (je_blk (jn_seq (j_seq ?_)))))
          refine j_region ?_
          refine jg_adr _ rfl _ rfl rfl (op_move (.base rfl)) ?_
          refine jg_adr _ rfl _ rfl rfl (op_move (.base rfl)) ?_
          refine jg_adr _ rfl _ rfl rfl (op_move (.base rfl)) ?_
          refine jg_adr _ rfl _ rfl rfl (op_call (rounded_ok A B mode (by omega) (by omega)) (.cons (.base rfl) (.cons (.base rfl) (.cons (.base rfl) .nil))) rfl rfl) ?_
          refine jg_adr _ rfl _ rfl rfl (op_assign (.base rfl)) ?_
          refine jg_nil ?_
          refine jn_keep [18] [] (.cons rfl .nil) .nil ?_
          refine jn_seq (j_seq (j_seq ?_))
          have hbf : brkF date c 0 0 t.2.2.2 = some (A, B) := by rw [← p2, List.drop_of_length_le (by omega)]; rfl
          refine j_region ?_
          refine jg_adr _ rfl _ rfl rfl (op_move (.base rfl)) ?_
          refine jg_adr _ rfl _ rfl rfl (op_call (rbeyond_ok _ _ (by omega)) (.cons (.base rfl) (.cons (.base rfl) .nil)) rfl rfl) ?_
          refine jg_nil ?_
          refine jn_keep [18, 97] [] (.cons rfl (.cons rfl .nil)) .nil ?_
          refine jn_seq ?_
          refine j_cond rfl (fun h19 => ?_) (fun h19 => ?_)
          · have h19 := byd_t h19
            refine j_seq ?_
            refine j_region ?_
            refine jg_adr _ rfl _ rfl rfl (op_assign (.base rfl)) ?_
            refine jg_adr _ rfl _ rfl rfl (op_assign (.base rfl)) ?_
            refine jg_nil ?_
            refine jn_keep [8, 9] [] (.cons rfl (.cons rfl .nil)) .nil ?_
            refine jn_seq (j_ret (jr_seq ?_))
            exact jr_fin2 Try.results22 (res_tmp rfl) (res_tmp rfl) ⟨rfl, rfl⟩ (svI2_eq (by unfold brackR; rw [if_neg (by rw [h1]; simp), if_neg (by rw [h3]; simp), if_neg (by rw [h5]; simp), hbf]; simp only; unfold rsR; rw [if_pos (by omega)]))
          · have h19 := byd_f h19
            refine j_skip (jn_seq (j_seq ?_))
            refine j_region ?_
            refine jg_adr _ rfl _ rfl rfl (op_move (.base rfl)) ?_
            refine jg_adr _ rfl _ rfl rfl (op_assign (.base rfl)) ?_
            refine jg_adr _ rfl _ rfl rfl (op_assign (.base rfl)) ?_
            refine jg_nil ?_
            refine jn_keep [8, 9] [] (.cons rfl (.cons rfl .nil)) .nil ?_
            refine jn_seq (j_ret ?_)
            exact jr_fin2 Try.results22 (res_tmp rfl) (res_tmp rfl) ⟨rfl, rfl⟩ (svI2_eq (by unfold brackR; rw [if_neg (by rw [h1]; simp), if_neg (by rw [h3]; simp), if_neg (by rw [h5]; simp), hbf]; simp only; unfold rsR; rw [if_neg (by omega)]))

end Go.Proofs.Ytcdkmhmlpjnfeaa
