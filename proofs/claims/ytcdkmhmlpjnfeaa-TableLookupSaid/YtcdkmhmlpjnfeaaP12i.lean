import Derived.Test.YtcdkmhmlpjnfeaaP12h
namespace Go.Proofs.Ytcdkmhmlpjnfeaa
open Go.Eng
set_option maxRecDepth 100000
set_option maxHeartbeats 4000000
set_option linter.unusedVariables false
set_option linter.unusedSimpArgs false


def loP (x : TRow) : Int := if x.2.1 < 0 then 0 else x.2.1
def hiP (x : TRow) (c : Int) : Int := if c < x.2.2.1 then c else x.2.2.1
/-- the sums of the rows, or none where a row is out of range -/
def brkF (date c : Int) : Int → Int → List TRow → Option (Int × Int)
  | a, b, [] => some (a, b)
  | a, b, x :: l => if (!(contR x.1 date) || decide (loP x ≥ hiP x c)) = true then brkF date c a b l else if (contr (hiP x c - loP x) x.2.2.2).2.2 = false then none else brkF date c (a + (contr (hiP x c - loP x) x.2.2.2).1) (b + (contr (hiP x c - loP x) x.2.2.2).2.1) l
def brackR (t : TTable) (date c mode : Int) : Int × Int :=
  if modeOk mode = false then (0, 1) else if (t.2.1 != (3, 0) || t.2.2.1 != (4, 0)) = true then (0, 8) else if byd c 1000000000000000 = true then (0, 3)
  else match brkF date c 0 0 t.2.2.2 with | none => (0, 3) | some p => rsR (p.1 * 1000000 + p.2) mode
theorem contr_bd {len n : Int} : -1000000000000000 ≤ (contr len n).1 ∧ (contr len n).1 ≤ 1000000000000000 ∧ -1000000 ≤ (contr len n).2.1 ∧ (contr len n).2.1 ≤ 1000000 := by
  unfold contr
  split
  · simp
  · split <;> (simp only; omega)

theorem brackets_ok (t : TTable) (date c mode : Int) (hl : t.2.2.2.length ≤ 100) (hN : ∀ x ∈ t.2.2.2, -9223372036854775808 ≤ x.2.2.2 ∧ x.2.2.2 ≤ 9223372036854775807) : Ct Try.prog 21 [.tv rTable t, .raw (.int .i64 date), .raw (.int .i64 c), .raw (.int .i64 mode)] (svI2 (brackR t date c mode)) := by
  refine ct_intro Try.func21 rfl rfl Try.ntmps21 rfl rfl ?_
  intro w0 ok0
  refine j_seq ?_
  refine j_region ?_
  refine jg_os _ rfl (op_box (.tv (.base rfl)) rfl rfl rfl) ?_
  refine jg_adr _ rfl _ rfl rfl (op_assign (.base rfl)) ?_
  refine jg_adr _ rfl _ rfl rfl (op_assign (.base rfl)) ?_
  refine jg_nil ?_
  refine jn_keep [1, 2, 3, 4] [4] (.cons rfl (.cons rfl (.cons rfl (.cons rfl .nil)))) (.cons rfl .nil) ?_
  refine jn_seq (j_seq (j_seq ?_))
  refine j_region ?_
  refine jg_adr _ rfl _ rfl rfl (op_move (.base rfl)) ?_
  refine jg_adr _ rfl _ rfl rfl (op_lss (.base rfl) (.base rfl)) ?_
  refine jg_adr _ rfl _ rfl rfl (op_move (.base rfl)) ?_
  refine jg_gd _ _ _ _ _ _ rfl rfl rfl rfl rfl (fun hg => op_move (.base rfl)) ?_
  refine jg_gd _ _ _ _ _ _ rfl rfl rfl rfl rfl (fun hg => op_gtr (.gd rfl hg) (.base rfl)) ?_
  refine jg_adr _ rfl _ rfl rfl (op_pick_or (.base rfl) (.base rfl) rfl (by intro h; first | (rw [h]; rfl) | (rw [hg, h]; rfl) | (rw [h, hg]; rfl) | simp_all)) ?_
  refine jg_nil ?_
  refine jn_keep [1, 2, 3, 4, 24] [4] (.cons rfl (.cons rfl (.cons rfl (.cons rfl (.cons rfl .nil))))) (.cons rfl .nil) ?_
  refine jn_seq ?_
  refine j_cond rfl (fun h1 => ?_) (fun h1 => ?_)
  · have h1 : modeOk mode = false := by rw [← Bool.not_eq_true]; intro q; simp [modeOk] at q h1; omega
    refine j_seq ?_
    refine j_region ?_
    refine jg_adr _ rfl _ rfl rfl (op_assign (.base rfl)) ?_
    refine jg_adr _ rfl _ rfl rfl (op_assign (.base rfl)) ?_
    refine jg_nil ?_
    refine jn_keep [8, 9] [] (.cons rfl (.cons rfl .nil)) .nil ?_
    refine jn_seq (j_ret (jr_seq ?_))
    exact jr_fin2 Try.results21 (res_tmp rfl) (res_tmp rfl) ⟨rfl, rfl⟩ (svI2_eq (by unfold brackR; rw [if_pos h1]))
  · have h1 : modeOk mode = true := by simp [modeOk] at h1 ⊢; omega
    refine j_skip (jn_seq (j_seq (j_seq ?_)))
    refine j_region ?_
    refine jg_adr _ rfl _ rfl rfl (op_ofield fld26_1 (.base rfl)) ?_
    refine jg_adr _ rfl _ rfl rfl (op_oload ty23 (.base rfl) rfl rfl ln26_1) ?_
    refine jg_adr _ rfl _ rfl rfl (op_build z23 rfl pl23 (.cons (rt' := (rInt .i64)) rfl ln23_0 (.raw (.base rfl) rfl) .nil)) ?_
    refine jg_adr _ rfl _ rfl rfl (op_sneq eq23 rfl rfl eg23 (.tv (.base rfl)) (.tv (.base rfl))) ?_
    refine jg_adr _ rfl _ rfl rfl (op_move (.base rfl)) ?_
    refine jg_gd _ _ _ _ _ _ rfl rfl rfl rfl rfl (fun hg => op_ofield fld26_2 (.base rfl)) ?_
    refine jg_gd _ _ _ _ _ _ rfl rfl rfl rfl rfl (fun hg => op_oload ty23 (.gd rfl hg) rfl rfl ln26_2) ?_
    refine jg_gd _ _ _ _ _ _ rfl rfl rfl rfl rfl (fun hg => op_build z23 rfl pl23 (.cons (rt' := (rInt .i64)) rfl ln23_0 (.raw (.base rfl) rfl) .nil)) ?_
    refine jg_gd _ _ _ _ _ _ rfl rfl rfl rfl rfl (fun hg => op_sneq eq23 rfl rfl eg23 (.tv (.gd rfl hg)) (.tv (.gd rfl hg))) ?_
    refine jg_adr _ rfl _ rfl rfl (op_pick_or (.base rfl) (.base rfl) rfl (by intro h; first | (rw [h]; rfl) | (rw [hg, h]; rfl) | (rw [h, hg]; rfl) | simp_all)) ?_
    refine jg_nil ?_
    refine jn_keep [1, 2, 3, 4, 34] [4] (.cons rfl (.cons rfl (.cons rfl (.cons rfl (.cons rfl .nil))))) (.cons rfl .nil) ?_
    refine jn_seq ?_
    refine j_cond rfl (fun h3 => ?_) (fun h3 => ?_)
    · skip
      refine j_seq ?_
      refine j_region ?_
      refine jg_adr _ rfl _ rfl rfl (op_assign (.base rfl)) ?_
      refine jg_adr _ rfl _ rfl rfl (op_assign (.base rfl)) ?_
      refine jg_nil ?_
      refine jn_keep [8, 9] [] (.cons rfl (.cons rfl .nil)) .nil ?_
      refine jn_seq (j_ret (jr_seq ?_))
      exact jr_fin2 Try.results21 (res_tmp rfl) (res_tmp rfl) ⟨rfl, rfl⟩ (svI2_eq (by unfold brackR; rw [if_neg (by rw [h1]; simp), if_pos h3]))
    · skip
      refine j_skip (jn_seq (j_seq (j_seq ?_)))
      refine j_region ?_
      refine jg_adr _ rfl _ rfl rfl (op_move (.base rfl)) ?_
      refine jg_adr _ rfl _ rfl rfl (op_lss (.base rfl) (.base rfl)) ?_
      refine jg_adr _ rfl _ rfl rfl (op_move (.base rfl)) ?_
      refine jg_gd _ _ _ _ _ _ rfl rfl rfl rfl rfl (fun hg => op_move (.base rfl)) ?_
      refine jg_gd _ _ _ _ _ _ rfl rfl rfl rfl rfl (fun hg => op_gtr (.gd rfl hg) (.base rfl)) ?_
      refine jg_adr _ rfl _ rfl rfl (op_pick_or (.base rfl) (.base rfl) rfl (by intro h; first | (rw [h]; rfl) | (rw [hg, h]; rfl) | (rw [h, hg]; rfl) | simp_all)) ?_
      refine jg_nil ?_
      refine jn_keep [1, 2, 3, 4, 40] [4] (.cons rfl (.cons rfl (.cons rfl (.cons rfl (.cons rfl .nil))))) (.cons rfl .nil) ?_
      refine jn_seq ?_
      refine j_cond rfl (fun h5 => ?_) (fun h5 => ?_)
      · have h5 : byd c 1000000000000000 = true := by simp [byd] at h5 ⊢; omega
        refine j_seq ?_
        refine j_region ?_
        refine jg_adr _ rfl _ rfl rfl (op_assign (.base rfl)) ?_
        refine jg_adr _ rfl _ rfl rfl (op_assign (.base rfl)) ?_
        refine jg_nil ?_
        refine jn_keep [8, 9] [] (.cons rfl (.cons rfl .nil)) .nil ?_
        refine jn_seq (j_ret (jr_seq ?_))
        exact jr_fin2 Try.results21 (res_tmp rfl) (res_tmp rfl) ⟨rfl, rfl⟩ (svI2_eq (by unfold brackR; rw [if_neg (by rw [h1]; simp), if_neg (by rw [h3]; simp), if_pos h5]))
      · have h5 : byd c 1000000000000000 = false := by simp [byd] at h5 ⊢; omega
        have k5 := byd_f h5
        refine j_skip (jn_seq (j_seq ?_))
        refine j_region ?_
        refine jg_adr _ rfl _ rfl rfl (op_assign (.base rfl)) ?_
        refine jg_adr _ rfl _ rfl rfl (op_assign (.base rfl)) ?_
        refine jg_nil ?_
        refine jn_keep [1, 2, 3, 4, 10, 11] [4] (.cons rfl (.cons rfl (.cons rfl (.cons rfl (.cons rfl (.cons rfl .nil)))))) (.cons rfl .nil) ?_
        refine jn_seq (j_seq (j_seq ?_))
        refine j_region ?_
        refine jg_adr _ rfl _ rfl rfl (op_ofield fld26_3 (.base rfl)) ?_
        refine jg_adr _ rfl _ rfl rfl (op_oload ty24 (.base rfl) rfl rfl ln26_3) ?_
        refine jg_adr _ rfl _ rfl rfl (op_len Try.underlying24 (.base rfl)) ?_
        refine jg_adr _ rfl _ rfl rfl (op_move (.base rfl)) ?_
        refine jg_nil ?_
        refine jn_keep [1, 2, 3, 10, 11, 42, 43, 44] [] (.cons rfl (.cons rfl (.cons rfl (.cons rfl (.cons rfl (.cons rfl (.cons rfl (.cons rfl .nil)))))))) .nil ?_
        refine jn_seq (j_block ?_)
        refine j_loopp (ι := Nat × Int × Int) (fun (k, A, B) => ⟨[(1, .raw (.int .i64 (date))), (2, .raw (.int .i64 (c))), (3, .raw (.int .i64 (mode))), (10, .raw (.int .i64 (A))), (11, .raw (.int .i64 (B))), (42, .tv (rSlice rRow) t.2.2.2), (43, .raw (.int .i64 (t.2.2.2.length))), (44, .raw (.int .i64 ((k : Nat))))], []⟩) (fun (k, A, B) => k ≤ t.2.2.2.length ∧ brkF date c A B (t.2.2.2.drop k) = brkF date c 0 0 t.2.2.2 ∧ (-(k * 1000000000000000 : Int) ≤ A ∧ A ≤ k * 1000000000000000) ∧ (-(k * 1000000 : Int) ≤ B ∧ B ≤ k * 1000000)) (fun (k, A, B) => t.2.2.2.length - k) (0, 0, 0) (⟨Nat.zero_le _, rfl, by omega, by omega⟩) (fun a w hi => (Sub.inv ⟨(by repeat (first | exact SubS_nil | refine SubS_cons rfl (by first | rfl | (simp; done) | assumption) ?_)), (by repeat (first | exact SubH_nil | refine SubH_cons rfl (by first | rfl | (simp; done) | assumption) ?_))⟩ hi)) ?_
        rintro ⟨k, A, B⟩ ⟨p1, p2, p3, p4⟩
        refine j_seq ?_
        refine j_region ?_
        refine jg_adr _ rfl _ rfl rfl (op_lss (.base rfl) (.base rfl)) ?_
        refine jg_nil ?_
        refine jn_keep [1, 2, 3, 10, 11, 42, 43, 44, 45] [] (.cons rfl (.cons rfl (.cons rfl (.cons rfl (.cons rfl (.cons rfl (.cons rfl (.cons rfl (.cons rfl .nil))))))))) .nil ?_
        refine jn_seq (j_seq ?_)
        refine j_cond rfl (fun h9 => ?_) (fun h9 => ?_)
        · simp at h9
          have hd := List.drop_eq_getElem_cons h9
          have hn := hN _ (List.getElem_mem h9)
          have hcb := contr_bd (len := hiP (t.2.2.2[k]) c - loP (t.2.2.2[k])) (n := (t.2.2.2[k]).2.2.2)
          refine j_skip (jn_seq (j_seq (j_block (j_seq ?_))))
          refine j_region ?_
          refine jg_adr _ rfl _ rfl rfl (op_index Try.underlying24 ty50 (.base rfl) (.base rfl) rfl (List.getElem?_eq_getElem (by first | omega | (simp; done) | (simp; omega) | (simp at hg; omega)))) ?_
          refine jg_adr _ rfl _ rfl rfl (op_load ty50 (.base rfl)) ?_
          refine jg_os _ rfl (op_alloc _ z50 rfl rfl rfl) ?_
          refine jg_os _ rfl (op_ostore ty50 (.base rfl) rfl rfl (Lens.id _) (.tv (.base rfl))) ?_
          refine jg_nil ?_
          refine jn_keep [1, 2, 3, 10, 11, 13, 42, 43, 44] [13] (.cons rfl (.cons rfl (.cons rfl (.cons rfl (.cons rfl (.cons rfl (.cons rfl (.cons rfl (.cons rfl .nil))))))))) (.cons rfl .nil) ?_
          refine jn_seq (j_seq ?_)
          refine j_draw mo (by kernel_rfl) (
            AS.cons _ _ rfl (ga_adr rfl rfl rfl (op_ofield fld50_1 (.base rfl))) (
              AS.cons _ _ rfl (ga_adr rfl rfl rfl (op_oload ty3 (.base rfl) rfl rfl ln50_1)) (
              AS.cons _ _ rfl (ga_adr rfl rfl rfl (op_max (.base rfl) (.base rfl))) (
              AS.cons _ _ rfl (ga_adr rfl rfl rfl (op_ofield fld50_2 (.base rfl))) (
              AS.cons _ _ rfl (ga_adr rfl rfl rfl (op_oload ty3 (.base rfl) rfl rfl ln50_2)) (
              AS.cons _ _ rfl (ga_adr rfl rfl rfl (op_move (.base rfl))) (
              AS.cons _ _ rfl (ga_adr rfl rfl rfl (op_min (.base rfl) (.base rfl))) (
              AS.cons _ _ rfl (ga_adr rfl rfl rfl (op_assign (.base rfl))) (
              AS.cons _ _ rfl (ga_adr rfl rfl rfl (op_assign (.base rfl))) (
              AS.nil)))))))))) ?_
          refine jn_keep [1, 2, 3, 10, 11, 13, 14, 15, 42, 43, 44] [13] (.cons rfl (.cons rfl (.cons rfl (.cons rfl (.cons rfl (.cons rfl (.cons rfl (.cons rfl (.cons rfl (.cons rfl (.cons rfl .nil))))))))))) (.cons rfl .nil) ?_
          refine jn_seq (j_seq (j_seq ?_))
          refine j_region ?_
          refine jg_adr _ rfl _ rfl rfl (op_ofield fld50_0 (.base rfl)) ?_
          refine jg_adr _ rfl _ rfl rfl (op_oload ty48 (.base rfl) rfl rfl ln50_0) ?_
          refine jg_adr _ rfl _ rfl rfl (op_move (.base rfl)) ?_
          refine jg_adr _ rfl _ rfl rfl (op_call (dcont_ok _ _) (.cons (.base rfl) (.cons (.base rfl) .nil)) rfl rfl) ?_
          refine jg_adr _ rfl _ rfl rfl (op_not (.base rfl)) ?_
          refine jg_adr _ rfl _ rfl rfl (op_move (.base rfl)) ?_
          refine jg_gd _ _ _ _ _ _ rfl rfl rfl rfl rfl (fun hg => op_move (.base rfl)) ?_
          refine jg_gd _ _ _ _ _ _ rfl rfl rfl rfl rfl (fun hg => op_move (.base rfl)) ?_
          refine jg_gd _ _ _ _ _ _ rfl rfl rfl rfl rfl (fun hg => op_geq (.gd rfl hg) (.gd rfl hg)) ?_
          refine jg_adr _ rfl _ rfl rfl (op_pick_or (.base rfl) (.base rfl) rfl (by intro h; first | (rw [h]; rfl) | (rw [hg, h]; rfl) | (rw [h, hg]; rfl) | simp_all)) ?_
          refine jg_nil ?_
          refine jn_keep [1, 2, 3, 10, 11, 13, 14, 15, 42, 43, 44, 64] [13] (.cons rfl (.cons rfl (.cons rfl (.cons rfl (.cons rfl (.cons rfl (.cons rfl (.cons rfl (.cons rfl (.cons rfl (.cons rfl (.cons rfl .nil)))))))))))) (.cons rfl .nil) ?_
          refine jn_seq ?_
          refine j_cond rfl (fun h12 => ?_) (fun h12 => ?_)
          · have h12 : (!(contR (t.2.2.2[k]).1 date) || decide (loP (t.2.2.2[k]) ≥ hiP (t.2.2.2[k]) c)) = true := h12
            refine j_exit (je_seq (je_blk (jn_seq ?_)))
            refine j_region ?_
            refine jg_adr _ rfl _ rfl rfl (op_add (.base rfl) (.base rfl) (w64 (by omega))) ?_
            refine jg_adr _ rfl _ rfl rfl (op_move (.base rfl)) ?_
            refine jg_nil ?_
            refine jn_keep [1, 2, 3, 10, 11, 42, 43, 44] [] (.cons rfl (.cons rfl (.cons rfl (.cons rfl (.cons rfl (.cons rfl (.cons rfl (.cons rfl .nil)))))))) .nil ?_
            first | (exact jn_loop (fun a w hi => ⟨(k + 1, A, B), (by show t.2.2.2.length - (k + 1) < t.2.2.2.length - k; omega), ⟨by omega, by rw [← p2, hd, brkF, if_pos h12], by omega, by omega⟩, (Sub.inv ⟨(by repeat (first | exact SubS_nil | refine SubS_cons rfl (by first | rfl | (simp; done)) ?_)), (by repeat (first | exact SubH_nil | refine SubH_cons rfl (by first | rfl | (simp; done) | assumption) ?_))⟩ hi)⟩)) | (exact jn_loop (fun a w hi => ⟨(k + 1, A + (contr (hiP (t.2.2.2[k]) c - loP (t.2.2.2[k])) (t.2.2.2[k]).2.2.2).1, B + (contr (hiP (t.2.2.2[k]) c - loP (t.2.2.2[k])) (t.2.2.2[k]).2.2.2).2.1), (by show t.2.2.2.length - (k + 1) < t.2.2.2.length - k; omega), ⟨by omega, by rw [← p2, hd, brkF, if_neg (by rw [h12]; simp), if_neg (by rw [h14]; simp)], by omega, by omega⟩, (Sub.inv ⟨(by repeat (first | exact SubS_nil | refine SubS_cons rfl (by first | rfl | (simp; done)) ?_)), (by repeat (first | exact SubH_nil | refine SubH_cons rfl (by first | rfl | (simp; done) | assumption) ?_))⟩ hi)⟩))
          · have h12 : (!(contR (t.2.2.2[k]).1 date) || decide (loP (t.2.2.2[k]) ≥ hiP (t.2.2.2[k]) c)) = false := h12
            have k12 := of_decide_eq_false (orF h12).2
            have k13 : 0 ≤ loP (t.2.2.2[k]) ∧ hiP (t.2.2.2[k]) c ≤ c := by unfold loP hiP; omega
            refine j_skip (jn_seq (j_seq ?_))
            refine j_region ?_
            refine jg_adr _ rfl _ rfl rfl (op_move (.base rfl)) ?_
            refine jg_adr _ rfl _ rfl rfl (op_move (.base rfl)) ?_
            refine jg_adr _ rfl _ rfl rfl (op_sub (.base rfl) (.base rfl) (w64c (show _ = hiP (t.2.2.2[k]) c - loP (t.2.2.2[k]) from rfl) (by omega))) ?_
            refine jg_adr _ rfl _ rfl rfl (op_ofield fld50_3 (.base rfl)) ?_
            refine jg_adr _ rfl _ rfl rfl (op_oload ty3 (.base rfl) rfl rfl ln50_3) ?_
            refine jg_adr _ rfl _ rfl rfl (op_call (contr_ok (hiP (t.2.2.2[k]) c - loP (t.2.2.2[k])) _ (by omega) hn) (.cons (.base rfl) (.cons (.base rfl) .nil)) rfl rfl) ?_
            refine jg_adr _ rfl _ rfl rfl (op_move (.base rfl)) ?_
            refine jg_adr _ rfl _ rfl rfl (op_ext30 (.base rfl)) ?_
            refine jg_adr _ rfl _ rfl rfl (op_ext31 (.base rfl)) ?_
            refine jg_adr _ rfl _ rfl rfl (op_ext32 (.base rfl)) ?_
            refine jg_adr _ rfl _ rfl rfl (op_assign (.base rfl)) ?_
            refine jg_adr _ rfl _ rfl rfl (op_assign (.base rfl)) ?_
            refine jg_adr _ rfl _ rfl rfl (op_assign (.base rfl)) ?_
            refine jg_nil ?_
            refine jn_keep [1, 2, 3, 10, 11, 16, 17, 18, 42, 43, 44] [] (.cons rfl (.cons rfl (.cons rfl (.cons rfl (.cons rfl (.cons rfl (.cons rfl (.cons rfl (.cons rfl (.cons rfl (.cons rfl .nil))))))))))) .nil ?_
            refine jn_seq (j_seq (j_seq ?_))
            refine j_region ?_
            refine jg_adr _ rfl _ rfl rfl (op_move (.base rfl)) ?_
            refine jg_adr _ rfl _ rfl rfl (op_not (.base rfl)) ?_
            refine jg_nil ?_
            refine jn_keep [1, 2, 3, 10, 11, 16, 17, 42, 43, 44, 76] [] (.cons rfl (.cons rfl (.cons rfl (.cons rfl (.cons rfl (.cons rfl (.cons rfl (.cons rfl (.cons rfl (.cons rfl (.cons rfl .nil))))))))))) .nil ?_
            refine jn_seq ?_
            refine j_cond rfl (fun h14 => ?_) (fun h14 => ?_)
            · have h14 : (contr (hiP (t.2.2.2[k]) c - loP (t.2.2.2[k])) (t.2.2.2[k]).2.2.2).2.2 = false := by simpa using h14
              refine j_seq ?_
              refine j_region ?_
              refine jg_adr _ rfl _ rfl rfl (op_assign (.base rfl)) ?_
              refine jg_adr _ rfl _ rfl rfl (op_assign (.base rfl)) ?_
              refine jg_nil ?_
              refine jn_keep [8, 9] [] (.cons rfl (.cons rfl .nil)) .nil ?_
              refine jn_seq (j_ret (jr_seq (jr_blk (jr_seq (jr_loop (jr_blk (jr_seq ?_)))))))
              exact jr_fin2 Try.results21 (res_tmp rfl) (res_tmp rfl) ⟨rfl, rfl⟩ (svI2_eq (by unfold brackR; rw [if_neg (by rw [h1]; simp), if_neg (by rw [h3]; simp), if_neg (by rw [h5]; simp), ← p2, hd, brkF, if_neg (by rw [h12]; simp), if_pos h14]))
            · have h14 : (contr (hiP (t.2.2.2[k]) c - loP (t.2.2.2[k])) (t.2.2.2[k]).2.2.2).2.2 = true := by simpa using h14
              refine j_skip (jn_seq (j_seq ?_))
              refine j_region ?_
              refine jg_adr _ rfl _ rfl rfl (op_move (.base rfl)) ?_
              refine jg_adr _ rfl _ rfl rfl (op_move (.base rfl)) ?_
              refine jg_adr _ rfl _ rfl rfl (op_add (.base rfl) (.base rfl) (w64 (by omega))) ?_
              refine jg_adr _ rfl _ rfl rfl (op_assign (.base rfl)) ?_
              refine jg_nil ?_
              refine jn_keep [1, 2, 3, 10, 11, 17, 42, 43, 44] [] (.cons rfl (.cons rfl (.cons rfl (.cons rfl (.cons rfl (.cons rfl (.cons rfl (.cons rfl (.cons rfl .nil))))))))) .nil ?_
              refine jn_seq ?_
              refine j_region ?_
              refine jg_adr _ rfl _ rfl rfl (op_move (.base rfl)) ?_
              refine jg_adr _ rfl _ rfl rfl (op_move (.base rfl)) ?_
              refine jg_adr _ rfl _ rfl rfl (op_add (.base rfl) (.base rfl) (w64 (by omega))) ?_
              refine jg_adr _ rfl _ rfl rfl (op_assign (.base rfl)) ?_
              refine jg_nil ?_
              refine jn_keep [1, 2, 3, 10, 11, 42, 43, 44] [] (.cons rfl (.cons rfl (.cons rfl (.cons rfl (.cons rfl (.cons rfl (.cons rfl (.cons rfl .nil)))))))) .nil ?_
              refine jn_blk (jn_seq ?_)
              refine j_region ?_
              refine jg_adr _ rfl _ rfl rfl (op_add (.base rfl) (.base rfl) (w64 (by omega))) ?_
              refine jg_adr _ rfl _ rfl rfl (op_move (.base rfl)) ?_
              refine jg_nil ?_
              refine jn_keep [1, 2, 3, 10, 11, 42, 43, 44] [] (.cons rfl (.cons rfl (.cons rfl (.cons rfl (.cons rfl (.cons rfl (.cons rfl (.cons rfl .nil)))))))) .nil ?_
              first | (exact jn_loop (fun a w hi => ⟨(k + 1, A, B), (by show t.2.2.2.length - (k + 1) < t.2.2.2.length - k; omega), ⟨by omega, by rw [← p2, hd, brkF, if_pos h12], by omega, by omega⟩, (Sub.inv ⟨(by repeat (first | exact SubS_nil | refine SubS_cons rfl (by first | rfl | (simp; done)) ?_)), (by repeat (first | exact SubH_nil | refine SubH_cons rfl (by first | rfl | (simp; done) | assumption) ?_))⟩ hi)⟩)) | (exact jn_loop (fun a w hi => ⟨(k + 1, A + (contr (hiP (t.2.2.2[k]) c - loP (t.2.2.2[k])) (t.2.2.2[k]).2.2.2).1, B + (contr (hiP (t.2.2.2[k]) c - loP (t.2.2.2[k])) (t.2.2.2[k]).2.2.2).2.1), (by show t.2.2.2.length - (k + 1) < t.2.2.2.length - k; omega), ⟨by omega, by rw [← p2, hd, brkF, if_neg (by rw [h12]; simp), if_neg (by rw [h14]; simp)], by omega, by omega⟩, (Sub.inv ⟨(by repeat (first | exact SubS_nil | refine SubS_cons rfl (by first | rfl | (simp; done)) ?_)), (by repeat (first | exact SubH_nil | refine SubH_cons rfl (by first | rfl | (simp; done) | assumption) ?_))⟩ hi)⟩))
        · simp at h9
          refine j_exit (je_seq (je_loop (je_blk (jn_seq (j_seq ?_)))))
          refine j_region ?_
          refine jg_adr _ rfl _ rfl rfl (op_move (.base rfl)) ?_
          refine jg_adr _ rfl _ rfl rfl (op_move (.base rfl)) ?_
          refine jg_adr _ rfl _ rfl rfl (op_move (.base rfl)) ?_
          refine jg_adr _ rfl _ rfl rfl (op_call (roundSum_k A B mode h1 (by omega) (by omega)) (.cons (.base rfl) (.cons (.base rfl) (.cons (.base rfl) .nil))) rfl rfl) ?_
          refine jg_adr _ rfl _ rfl rfl (op_ext20 (.base rfl)) ?_
          refine jg_adr _ rfl _ rfl rfl (op_ext21 (.base rfl)) ?_
          refine jg_adr _ rfl _ rfl rfl (op_assign (.base rfl)) ?_
          refine jg_adr _ rfl _ rfl rfl (op_assign (.base rfl)) ?_
          refine jg_nil ?_
          refine jn_keep [8, 9] [] (.cons rfl (.cons rfl .nil)) .nil ?_
          refine jn_seq (j_ret ?_)
          exact jr_fin2 Try.results21 (res_tmp rfl) (res_tmp rfl) ⟨rfl, rfl⟩ (svI2_eq (by unfold brackR; rw [if_neg (by rw [h1]; simp), if_neg (by rw [h3]; simp), if_neg (by rw [h5]; simp), ← p2, List.drop_of_length_le (by omega)]; rfl))

end Go.Proofs.Ytcdkmhmlpjnfeaa
