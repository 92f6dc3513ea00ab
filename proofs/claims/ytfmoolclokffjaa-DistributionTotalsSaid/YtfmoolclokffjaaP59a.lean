import Derived.Test.YtfmoolclokffjaaP59m
import Derived.Test.YtfmoolclokffjaaEngC
import Derived.Test.YtfmoolclokffjaaEngW
import Derived.Test.YtfmoolclokffjaaTurns
import Derived.Test.YtfmoolclokffjaaSame
namespace Go.Proofs.Ytfmoolclokffjaa
open Go.Eng
set_option maxRecDepth 100000
set_option maxHeartbeats 4000000
set_option linter.unusedVariables false
set_option linter.unusedSimpArgs false

theorem within_ok (l : List Int) : Ct Try.prog 26 [.tv (rSlice (rInt .i64)) l] (.raw (.bool (okL l))) := by
  refine ct_intro Try.func26 rfl rfl Try.ntmps26 rfl rfl ?_
  intro w0 ok0
  refine j_len 0 rfl (fun hl0 => ?_)
  refine j_seq ?_
  refine j_region ?_
  refine jg_adr _ rfl _ rfl rfl (op_assign (.base rfl)) ?_
  refine jg_nil ?_
  refine jn_keep [0] [] (.cons rfl .nil) .nil ?_
  refine jn_seq (j_seq (j_seq ?_))
  refine j_region ?_
  refine jg_adr _ rfl _ rfl rfl (op_move (.base rfl)) ?_
  refine jg_adr _ rfl _ rfl rfl (op_len Try.underlying22 (.base rfl)) ?_
  refine jg_adr _ rfl _ rfl rfl (op_move (.base rfl)) ?_
  refine jg_nil ?_
  refine jn_keep [5, 6, 7] [] (.cons rfl (.cons rfl (.cons rfl .nil))) .nil ?_
  refine jn_seq (j_block ?_)
  refine j_loopp (ι := Nat) (fun k => ⟨[(5, .tv (rSlice (rInt .i64)) l), (6, .raw (.int .i64 (l.length))), (7, .raw (.int .i64 ((k : Nat))))], []⟩) (fun k => k ≤ l.length ∧ okL (l.drop k) = okL l) (fun k => l.length - k) 0 (⟨Nat.zero_le _, rfl⟩) (fun a w hi => (Sub.inv ⟨(by repeat (first | exact SubS_nil | refine SubS_cons rfl (by first | rfl | (simp; done) | assumption) ?_)), (by repeat (first | exact SubH_nil | refine SubH_cons rfl (by first | rfl | (simp; done) | assumption) ?_))⟩ hi)) ?_
  rintro k ⟨p1, p2⟩
  refine j_seq ?_
  refine j_region ?_
  refine jg_adr _ rfl _ rfl rfl (op_lss (.base rfl) (.base rfl)) ?_
  refine jg_nil ?_
  refine jn_keep [5, 6, 7, 8] [] (.cons rfl (.cons rfl (.cons rfl (.cons rfl .nil)))) .nil ?_
  refine jn_seq (j_seq ?_)
  refine j_cond rfl (fun h2 => ?_) (fun h2 => ?_)
  · simp at h2
    have hd := List.drop_eq_getElem_cons h2
    refine j_skip (jn_seq (j_seq (j_block (j_seq ?_))))
    refine j_region ?_
    refine jg_adr _ rfl _ rfl rfl (op_index Try.underlying22 ty3 (.base rfl) (.base rfl) rfl (List.getElem?_eq_getElem (by first | omega | (simp; done) | (simp; omega) | (simp at hg; omega)))) ?_
    refine jg_adr _ rfl _ rfl rfl (op_load ty3 (.base rfl)) ?_
    refine jg_adr _ rfl _ rfl rfl (op_assign (.base rfl)) ?_
    refine jg_nil ?_
    refine jn_keep [4, 5, 6, 7] [] (.cons rfl (.cons rfl (.cons rfl (.cons rfl .nil)))) .nil ?_
    refine jn_seq (j_seq ?_)
    refine j_region ?_
    refine jg_adr _ rfl _ rfl rfl (op_move (.base rfl)) ?_
    refine jg_adr _ rfl _ rfl rfl (op_lss (.base rfl) (.base rfl)) ?_
    refine jg_adr _ rfl _ rfl rfl (op_move (.base rfl)) ?_
    refine jg_gd _ _ _ _ _ _ rfl rfl rfl rfl rfl (fun hg => op_move (.base rfl)) ?_
    refine jg_gd _ _ _ _ _ _ rfl rfl rfl rfl rfl (fun hg => op_gtr (.gd rfl hg) (.base rfl)) ?_
    refine jg_adr _ rfl _ rfl rfl (op_pick_or (.base rfl) (.base rfl) rfl (by intro h; first | (rw [h]; rfl) | (rw [hg, h]; rfl) | (rw [h, hg]; rfl) | simp_all)) ?_
    refine jg_nil ?_
    refine jn_keep [5, 6, 7, 16] [] (.cons rfl (.cons rfl (.cons rfl (.cons rfl .nil)))) .nil ?_
    refine jn_seq ?_
    refine j_cond rfl (fun h4 => ?_) (fun h4 => ?_)
    · have h4' : (!byd l[k] 1000000000000000) = false := by simp [byd]; simp at h4; omega
      refine j_seq ?_
      refine j_region ?_
      refine jg_adr _ rfl _ rfl rfl (op_assign (.base rfl)) ?_
      refine jg_nil ?_
      refine jn_keep [2] [] (.cons rfl .nil) .nil ?_
      refine jn_seq (j_ret (jr_blk (jr_seq (jr_loop (jr_blk (jr_seq ?_))))))
      exact jr_fin1 Try.results26 (res_tmp rfl) rfl (rb (by rw [← p2, hd]; unfold okL; rw [List.all_cons, h4']; rfl))
    · have h4' : (!byd l[k] 1000000000000000) = true := by simp [byd]; simp at h4; omega
      refine j_skip (jn_blk (jn_seq ?_))
      refine j_region ?_
      refine jg_adr _ rfl _ rfl rfl (op_add (.base rfl) (.base rfl) (w64 (by omega))) ?_
      refine jg_adr _ rfl _ rfl rfl (op_move (.base rfl)) ?_
      refine jg_nil ?_
      refine jn_keep [5, 6, 7] [] (.cons rfl (.cons rfl (.cons rfl .nil))) .nil ?_
      exact jn_loop (fun a w hi => ⟨k + 1, (by first | omega | (simp; omega)), (⟨by omega, by rw [← p2, hd]; unfold okL; rw [List.all_cons, h4', Bool.true_and]⟩), (Sub.inv ⟨(by repeat (first | exact SubS_nil | refine SubS_cons rfl (by first | rfl | (simp; done) | assumption) ?_)), (by repeat (first | exact SubH_nil | refine SubH_cons rfl (by first | rfl | (simp; done) | assumption) ?_))⟩ hi)⟩)
  · simp at h2
    refine j_exit (je_seq (je_loop (je_blk (jn_seq (j_seq ?_)))))
    refine j_region ?_
    refine jg_adr _ rfl _ rfl rfl (op_assign (.base rfl)) ?_
    refine jg_nil ?_
    refine jn_keep [2] [] (.cons rfl .nil) .nil ?_
    refine jn_seq (j_ret ?_)
    exact jr_fin1 Try.results26 (res_tmp rfl) rfl (rb (by rw [← p2, List.drop_of_length_le (by omega)]; rfl))

theorem rwithin_ok (l : List Int) : Ct Try.prog 29 [.tv (rSlice (rInt .i64)) l] (.raw (.bool (okL l))) := by
  refine ct_intro Try.func29 rfl rfl Try.ntmps29 rfl rfl ?_
  intro w0 ok0
  refine j_len 0 rfl (fun hl0 => ?_)
  refine j_seq ?_
  refine j_region ?_
  refine jg_adr _ rfl _ rfl rfl (op_assign (.base rfl)) ?_
  refine jg_nil ?_
  refine jn_keep [0] [] (.cons rfl .nil) .nil ?_
  refine jn_seq (j_seq (j_seq ?_))
  refine j_region ?_
  refine jg_adr _ rfl _ rfl rfl (op_assign (.base rfl)) ?_
  refine jg_nil ?_
  refine jn_keep [0, 3] [] (.cons rfl (.cons rfl .nil)) .nil ?_
  refine jn_seq (j_block ?_)
  refine j_loopp (ι := Nat) (fun k => ⟨[(0, .tv (rSlice (rInt .i64)) l), (3, .raw (.int .i64 ((k : Nat))))], []⟩) (fun k => k ≤ l.length ∧ okL (l.drop k) = okL l) (fun k => l.length - k) 0 (⟨Nat.zero_le _, rfl⟩) (fun a w hi => (Sub.inv ⟨(by repeat (first | exact SubS_nil | refine SubS_cons rfl (by first | rfl | (simp; done) | assumption) ?_)), (by repeat (first | exact SubH_nil | refine SubH_cons rfl (by first | rfl | (simp; done) | assumption) ?_))⟩ hi)) ?_
  rintro k ⟨p1, p2⟩
  refine j_seq (j_seq ?_)
  refine j_region ?_
  refine jg_adr _ rfl _ rfl rfl (op_move (.base rfl)) ?_
  refine jg_adr _ rfl _ rfl rfl (op_move (.base rfl)) ?_
  refine jg_adr _ rfl _ rfl rfl (op_len Try.underlying22 (.base rfl)) ?_
  refine jg_adr _ rfl _ rfl rfl (op_lss (.base rfl) (.base rfl)) ?_
  refine jg_nil ?_
  refine jn_keep [0, 3, 7] [] (.cons rfl (.cons rfl (.cons rfl .nil))) .nil ?_
  refine jn_seq ?_
  refine j_cond rfl (fun h2 => ?_) (fun h2 => ?_)
  · simp at h2
    have hd := List.drop_eq_getElem_cons h2
    refine j_skip (jn_seq (j_seq (j_block (j_seq ?_))))
    refine j_region ?_
    refine jg_adr _ rfl _ rfl rfl (op_move (.base rfl)) ?_
    refine jg_adr _ rfl _ rfl rfl (op_move (.base rfl)) ?_
    refine jg_adr _ rfl _ rfl rfl (op_index Try.underlying22 ty3 (.base rfl) (.base rfl) rfl (List.getElem?_eq_getElem (by first | omega | (simp; done) | (simp; omega) | (simp at hg; omega)))) ?_
    refine jg_adr _ rfl _ rfl rfl (op_load ty3 (.base rfl)) ?_
    refine jg_adr _ rfl _ rfl rfl (op_call (rbeyond_ok _ _ (by omega)) (.cons (.base rfl) (.cons (.base rfl) .nil)) rfl rfl) ?_
    refine jg_nil ?_
    refine jn_keep [0, 3, 14] [] (.cons rfl (.cons rfl (.cons rfl .nil))) .nil ?_
    refine jn_seq ?_
    refine j_cond rfl (fun h4 => ?_) (fun h4 => ?_)
    · skip
      refine j_seq ?_
      refine j_region ?_
      refine jg_adr _ rfl _ rfl rfl (op_assign (.base rfl)) ?_
      refine jg_nil ?_
      refine jn_keep [2] [] (.cons rfl .nil) .nil ?_
      refine jn_seq (j_ret (jr_blk (jr_seq (jr_loop (jr_blk (jr_seq ?_))))))
      exact jr_fin1 Try.results29 (res_tmp rfl) rfl (rb (by rw [← p2, hd]; unfold okL; rw [List.all_cons, h4]; rfl))
    · skip
      refine j_skip (jn_blk (jn_seq ?_))
      refine j_region ?_
      refine jg_adr _ rfl _ rfl rfl (op_move (.base rfl)) ?_
      refine jg_adr _ rfl _ rfl rfl (op_add (.base rfl) (.base rfl) (w64 (by omega))) ?_
      refine jg_adr _ rfl _ rfl rfl (op_assign (.base rfl)) ?_
      refine jg_nil ?_
      refine jn_keep [0, 3] [] (.cons rfl (.cons rfl .nil)) .nil ?_
      exact jn_loop (fun a w hi => ⟨k + 1, (by first | omega | (simp; omega)), (⟨by omega, by rw [← p2, hd]; unfold okL; rw [List.all_cons, h4]; rfl⟩), (Sub.inv ⟨(by repeat (first | exact SubS_nil | refine SubS_cons rfl (by first | rfl | (simp; done) | assumption) ?_)), (by repeat (first | exact SubH_nil | refine SubH_cons rfl (by first | rfl | (simp; done) | assumption) ?_))⟩ hi)⟩)
  · simp at h2
    refine j_exit (je_seq (je_loop (je_blk (jn_seq (j_seq ?_)))))
    refine j_region ?_
    refine jg_adr _ rfl _ rfl rfl (op_assign (.base rfl)) ?_
    refine jg_nil ?_
    refine jn_keep [2] [] (.cons rfl .nil) .nil ?_
    refine jn_seq (j_ret ?_)
    exact jr_fin1 Try.results29 (res_tmp rfl) rfl (rb (by rw [← p2, List.drop_of_length_le (by omega)]; rfl))


theorem cloneI_ok (l : List Int) (hlm : l.length ≤ 1000000) : CtO Try.prog 23 [.tv (rSlice (rInt .i64)) l] (rInt .i64) (l) := by
  refine ctO_intro Try.func23 rfl rfl Try.ntmps23 rfl rfl ?_
  intro w0 ok0
  refine j_seq ?_
  refine j_region ?_
  refine jg_adr _ rfl _ rfl rfl (op_assign (.base rfl)) ?_
  refine jg_nil ?_
  refine jn_keep [0] [] (.cons rfl .nil) .nil ?_
  refine jn_seq (j_seq (j_seq ?_))
  refine j_region ?_
  refine jg_adr _ rfl _ rfl rfl (op_move (.base rfl)) ?_
  refine jg_val 3 rfl (fun A cap hA => ?_)
  refine jg_adr _ rfl _ rfl rfl (op_eqlnil Try.underlying22 (.base rfl) (.base rfl)) ?_
  refine jg_nil ?_
  refine jn_keep [0, 4] [] (.cons rfl (.cons rfl .nil)) .nil ?_
  refine jn_seq ?_
  refine j_cond rfl (fun h1 => ?_) (fun h1 => ?_)
  · have hl : l = [] := hA (Option.isNone_iff_eq_none.1 h1)
    refine j_seq ?_
    refine j_region ?_
    refine jg_adr _ rfl _ rfl rfl (op_assign (.base rfl)) ?_
    refine jg_nil ?_
    refine jn_keep [2] [] (.cons rfl .nil) .nil ?_
    refine jn_seq (j_ret (jr_seq ?_))
    exact jr_finO_nil Try.results23 rfl hl.symm
  · skip
    refine j_skip (jn_seq (j_seq ?_))
    refine j_region ?_
    refine jg_os _ rfl (op_obslice (rt := rInt .i64) (ds := []) Try.underlying22 ty3 z3 rfl .nil rfl rfl rfl rfl rfl) ?_
    refine jg_adr _ rfl _ rfl rfl (op_move (.base rfl)) ?_
    refine jg_os _ rfl (op_append [] Try.underlying22 ty3 z3 rfl by3 (.base rfl) rfl (by (try simp); try omega) (.tv (.base rfl)) (by unfold maxLen; (try simp); try omega) (by (try simp); try omega) rfl .nil rfl) ?_
    refine jg_adr _ rfl _ rfl rfl (op_assign (.base rfl)) ?_
    refine jg_nil ?_
    refine jn_keep [2] [5] (.cons rfl .nil) (.cons rfl .nil) ?_
    refine jn_seq (j_ret ?_)
    exact jr_finO Try.results23 rfl rfl (by simp) (by simp)

theorem sic_ok (a : List Int) (x i : Int) (hi : 0 ≤ i ∧ i < a.length) : Ct Try.prog 35 [.raw (.int .i64 i), .eptr (rSlice (rInt .i64)) a, .eptr (rInt .i64) x] (.raw (.bool (decide (x ≤ a.getD i.toNat 0)))) := by
  refine ct_intro Try.func35 rfl rfl Try.ntmps35 rfl rfl ?_
  intro w0 ok0
  refine j_seq ?_
  refine j_region ?_
  refine jg_adr _ rfl _ rfl rfl (op_assign (.base rfl)) ?_
  refine jg_nil ?_
  refine jn_keep [0, 1, 2] [] (.cons rfl (.cons rfl (.cons rfl .nil))) .nil ?_
  refine jn_seq (j_seq ?_)
  refine j_draw mo (by kernel_rfl) (
    AS.cons _ _ rfl (ga_adr rfl rfl rfl (op_load ty22 (.base rfl))) (
      AS.cons _ _ rfl (ga_adr rfl rfl rfl (op_move (.base rfl))) (
      AS.cons _ _ rfl (ga_adr rfl rfl rfl (op_index Try.underlying22 ty3 (.base rfl) (.base rfl) (Int.toNat_of_nonneg hi.1).symm (List.getElem?_eq_getElem (by first | omega | (simp; done) | (simp; omega) | (simp at hg; omega))))) (
      AS.cons _ _ rfl (ga_adr rfl rfl rfl (op_load ty3 (.base rfl))) (
      AS.cons _ _ rfl (ga_adr rfl rfl rfl (op_load ty3 (.base rfl))) (
      AS.cons _ _ rfl (ga_adr rfl rfl rfl (op_geq (.base rfl) (.base rfl))) (
      AS.cons _ _ rfl (ga_adr rfl rfl rfl (op_assign (.base rfl))) (
      AS.nil)))))))) ?_
  refine jn_keep [4] [] (.cons rfl .nil) .nil ?_
  refine jn_seq (j_ret ?_)
  exact jr_fin1 Try.results35 (res_tmp rfl) rfl (rb (by rw [List.getD_eq_getElem?_getD, List.getElem?_eq_getElem (by omega)]; rfl))

theorem w64c {e v : Int} (h : e = v) (hb : -9223372036854775808 ≤ v ∧ v ≤ 9223372036854775807) : IntKind.i64.wrap e = v := by rw [h]; exact w64 hb
theorem search_ok (n m : Nat) (f : Int → Bool) (hn : n ≤ 1000000) (hm : m ≤ n) (hmono : ∀ h : Nat, h < n → (f h = true ↔ m ≤ h)) : Ct Try.prog 34 [.raw (.int .i64 (n : Nat)), .tv (rFun Try.prog (rInt .i64) rBool (fun i => 0 ≤ i ∧ i < n)) f] (.raw (.int .i64 (m : Nat))) := by
  refine ct_intro Try.func34 rfl rfl Try.ntmps34 rfl rfl ?_
  intro w0 ok0
  refine j_seq ?_
  refine j_region ?_
  refine jg_adr _ rfl _ rfl rfl (op_assign (.base rfl)) ?_
  refine jg_nil ?_
  refine jn_keep [0, 1] [] (.cons rfl (.cons rfl .nil)) .nil ?_
  refine jn_seq (j_seq ?_)
  refine j_region ?_
  refine jg_adr _ rfl _ rfl rfl (op_move (.base rfl)) ?_
  refine jg_adr _ rfl _ rfl rfl (op_assign (.base rfl)) ?_
  refine jg_adr _ rfl _ rfl rfl (op_assign (.base rfl)) ?_
  refine jg_nil ?_
  refine jn_keep [1, 5, 6] [] (.cons rfl (.cons rfl (.cons rfl .nil))) .nil ?_
  refine jn_seq (j_seq (j_block ?_))
  refine j_loopp (ι := Nat × Nat) (fun (i, j) => ⟨[(1, .tv (rFun Try.prog (rInt .i64) rBool (fun i => 0 ≤ i ∧ i < n)) f), (5, .raw (.int .i64 ((i : Nat)))), (6, .raw (.int .i64 ((j : Nat))))], []⟩) (fun (i, j) => i ≤ m ∧ m ≤ j ∧ j ≤ n) (fun (i, j) => j - i) (0, n) (by omega) (fun a w hi => (Sub.inv ⟨(by repeat (first | exact SubS_nil | refine SubS_cons rfl (by first | rfl | (simp; done) | assumption) ?_)), (by repeat (first | exact SubH_nil | refine SubH_cons rfl (by first | rfl | (simp; done) | assumption) ?_))⟩ hi)) ?_
  rintro ⟨i, j⟩ ⟨p1, p2, p3⟩
  refine j_seq (j_seq ?_)
  refine j_region ?_
  refine jg_adr _ rfl _ rfl rfl (op_move (.base rfl)) ?_
  refine jg_adr _ rfl _ rfl rfl (op_move (.base rfl)) ?_
  refine jg_adr _ rfl _ rfl rfl (op_lss (.base rfl) (.base rfl)) ?_
  refine jg_nil ?_
  refine jn_keep [1, 5, 6, 11] [] (.cons rfl (.cons rfl (.cons rfl (.cons rfl .nil)))) .nil ?_
  refine jn_seq ?_
  refine j_cond rfl (fun h2 => ?_) (fun h2 => ?_)
  · simp at h2
    refine j_skip (jn_seq (j_block (j_seq ?_)))
    refine j_region ?_
    refine jg_adr _ rfl _ rfl rfl (op_move (.base rfl)) ?_
    refine jg_adr _ rfl _ rfl rfl (op_move (.base rfl)) ?_
    refine jg_adr _ rfl _ rfl rfl (op_add (.base rfl) (.base rfl) (w64 (by omega))) ?_
    refine jg_adr _ rfl _ rfl rfl (op_conv ⟨_, Try.underlying3⟩ Try.underlying53 (.base rfl) (wu64 (by omega))) ?_
    refine jg_adr _ rfl _ rfl rfl (op_shr (.base rfl) (.base rfl) (by omega) (show Int.fdiv ((i : Int) + (j : Int)) (2 ^ min (Int.toNat 1) IntKind.u64.bits) = ((i : Int) + j) / 2 from by rw [show (2 : Int) ^ min (Int.toNat 1) IntKind.u64.bits = 2 from rfl, Int.fdiv_eq_ediv_of_nonneg _ (by decide)])) ?_
    refine jg_adr _ rfl _ rfl rfl (op_conv ⟨_, Try.underlying53⟩ Try.underlying3 (.base rfl) (show IntKind.i64.wrap _ = (((i + j) / 2 : Nat) : Int) from w64c (by omega) (by omega))) ?_
    refine jg_adr _ rfl _ rfl rfl (op_assign (.base rfl)) ?_
    refine jg_nil ?_
    refine jn_keep [1, 5, 6, 7] [] (.cons rfl (.cons rfl (.cons rfl (.cons rfl .nil)))) .nil ?_
    refine jn_seq (j_seq ?_)
    refine j_region ?_
    refine jg_adr _ rfl _ rfl rfl (op_move (.base rfl)) ?_
    refine jg_adr _ rfl _ rfl rfl (op_move (.base rfl)) ?_
    refine jg_adr _ rfl _ rfl rfl (op_callf (.base rfl) (.raw (.base rfl) rfl) (by omega)) ?_
    refine jg_adr _ rfl _ rfl rfl (op_not (.base rfl)) ?_
    refine jg_nil ?_
    refine jn_keep [1, 5, 6, 7, 21] [] (.cons rfl (.cons rfl (.cons rfl (.cons rfl (.cons rfl .nil))))) .nil ?_
    refine jn_seq ?_
    refine j_cond rfl (fun h4 => ?_) (fun h4 => ?_)
    · have h4 : f ((i + j) / 2 : Nat) = false := by simpa using h4
      have hm4 := hmono ((i + j) / 2 : Nat) (by omega)
      rw [h4] at hm4
      have hm4 : ¬ m ≤ (i + j) / 2 := fun q => by simpa using hm4.2 q
      refine j_region ?_
      refine jg_adr _ rfl _ rfl rfl (op_move (.base rfl)) ?_
      refine jg_adr _ rfl _ rfl rfl (op_add (.base rfl) (.base rfl) (w64 (by omega))) ?_
      refine jg_adr _ rfl _ rfl rfl (op_assign (.base rfl)) ?_
      refine jg_nil ?_
      refine jn_keep [1, 5, 6] [] (.cons rfl (.cons rfl (.cons rfl .nil))) .nil ?_
      refine jn_blk ?_
      first | exact jn_loop (fun a w hi => ⟨((i + j) / 2 + 1, j), (by show j - ((i + j) / 2 + 1) < j - i; omega), (by omega), Sub.inv ⟨(by repeat (first | exact SubS_nil | refine SubS_cons rfl (by first | rfl | exact congrArg (fun z => SV.raw (Value.int .i64 z)) (by omega)) ?_)), (by repeat (first | exact SubH_nil | refine SubH_cons rfl (by first | rfl | (simp; done) | assumption) ?_))⟩ hi⟩) | exact jn_loop (fun a w hi => ⟨(i, (i + j) / 2), (by show (i + j) / 2 - i < j - i; omega), (by omega), Sub.inv ⟨(by repeat (first | exact SubS_nil | refine SubS_cons rfl (by first | rfl | exact congrArg (fun z => SV.raw (Value.int .i64 z)) (by omega)) ?_)), (by repeat (first | exact SubH_nil | refine SubH_cons rfl (by first | rfl | (simp; done) | assumption) ?_))⟩ hi⟩)
    · have h4 : f ((i + j) / 2 : Nat) = true := by simpa using h4
      have hm4 := (hmono ((i + j) / 2 : Nat) (by omega)).1 h4
      refine j_region ?_
      refine jg_adr _ rfl _ rfl rfl (op_move (.base rfl)) ?_
      refine jg_adr _ rfl _ rfl rfl (op_assign (.base rfl)) ?_
      refine jg_nil ?_
      refine jn_keep [1, 5, 6] [] (.cons rfl (.cons rfl (.cons rfl .nil))) .nil ?_
      refine jn_blk ?_
      first | exact jn_loop (fun a w hi => ⟨((i + j) / 2 + 1, j), (by show j - ((i + j) / 2 + 1) < j - i; omega), (by omega), Sub.inv ⟨(by repeat (first | exact SubS_nil | refine SubS_cons rfl (by first | rfl | exact congrArg (fun z => SV.raw (Value.int .i64 z)) (by omega)) ?_)), (by repeat (first | exact SubH_nil | refine SubH_cons rfl (by first | rfl | (simp; done) | assumption) ?_))⟩ hi⟩) | exact jn_loop (fun a w hi => ⟨(i, (i + j) / 2), (by show (i + j) / 2 - i < j - i; omega), (by omega), Sub.inv ⟨(by repeat (first | exact SubS_nil | refine SubS_cons rfl (by first | rfl | exact congrArg (fun z => SV.raw (Value.int .i64 z)) (by omega)) ?_)), (by repeat (first | exact SubH_nil | refine SubH_cons rfl (by first | rfl | (simp; done) | assumption) ?_))⟩ hi⟩)
  · simp at h2
    refine j_exit (je_seq (je_loop (je_blk (jn_seq (j_seq ?_)))))
    refine j_region ?_
    refine jg_adr _ rfl _ rfl rfl (op_move (.base rfl)) ?_
    refine jg_adr _ rfl _ rfl rfl (op_assign (.base rfl)) ?_
    refine jg_nil ?_
    refine jn_keep [4] [] (.cons rfl .nil) .nil ?_
    refine jn_seq (j_ret ?_)
    exact jr_fin1 Try.results34 (res_tmp rfl) rfl (congrArg (fun z => SV.raw (Value.int .i64 z)) (by omega))

theorem searchI_ok (a : List Int) (x : Int) (hs : a.Pairwise (· < ·)) (hlm : a.length ≤ 1000000 := by omega) : Ct Try.prog 28 [.tv (rSlice (rInt .i64)) a, .raw (.int .i64 x)] (.raw (.int .i64 (cntLt a x : Nat))) := by
  refine ct_intro Try.func28 rfl rfl Try.ntmps28 rfl rfl ?_
  intro w0 ok0
  have hmono : ∀ h : Nat, h < a.length → (decide (x ≤ a.getD (h : Int).toNat 0) = true ↔ cntLt a x ≤ h) := fun h hh => by
    rw [Int.toNat_natCast, List.getD_eq_getElem?_getD, List.getElem?_eq_getElem hh, decide_eq_true_eq]; exact cntLt_iff hs h hh
  refine j_seq ?_
  refine j_region ?_
  refine jg_adr _ rfl _ rfl rfl (op_boxe (rt := (rSlice (rInt .i64))) (.tv (.base rfl))) ?_
  refine jg_adr _ rfl _ rfl rfl (op_boxe (rt := rInt .i64) (.raw (.base rfl) rfl)) ?_
  refine jg_adr _ rfl _ rfl rfl (op_assign (.base rfl)) ?_
  refine jg_nil ?_
  refine jn_keep [2, 3] [] (.cons rfl (.cons rfl .nil)) .nil ?_
  refine jn_seq (j_seq ?_)
  refine j_region ?_
  refine jg_adr _ rfl _ rfl rfl (op_load ty22 (.base rfl)) ?_
  refine jg_adr _ rfl _ rfl rfl (op_len Try.underlying22 (.base rfl)) ?_
  refine jg_adr _ rfl _ rfl rfl (op_mkfun (A := rInt .i64) (B := rBool) (sa := [.eptr (rSlice (rInt .i64)) a, .eptr (rInt .i64) x]) (φ := fun i => 0 ≤ i ∧ i < a.length) (fun i => decide (x ≤ a.getD i.toNat 0)) (callFunc_enter Try.func35 rfl (by kernel_rfl)) (fun i hi => sic_ok a x i hi) (.cons (.base rfl) (.cons (.base rfl) .nil)) rfl) ?_
  refine jg_adr _ rfl _ rfl rfl (op_call (search_ok a.length (cntLt a x) _ (by omega) (cntLt_le a x) hmono) (.cons (.base rfl) (.cons (.base rfl) .nil)) rfl rfl) ?_
  refine jg_adr _ rfl _ rfl rfl (op_assign (.base rfl)) ?_
  refine jg_nil ?_
  refine jn_keep [4] [] (.cons rfl .nil) .nil ?_
  refine jn_seq (j_ret ?_)
  exact jr_fin1 Try.results28 (res_tmp rfl) rfl (rfl)

theorem sorted_ok (l : List Int) (hlm : l.length ≤ 1000000) : Ct Try.prog 25 [.tv (rSlice (rInt .i64)) l] (.tv (rSlice (rInt .i64)) (srt l)) := by
  refine ct_intro Try.func25 rfl rfl Try.ntmps25 rfl rfl ?_
  intro w0 ok0
  refine j_len 0 rfl (fun hl0 => ?_)
  refine j_seq ?_
  refine j_region ?_
  refine jg_adr _ rfl _ rfl rfl (op_assign (.base rfl)) ?_
  refine jg_nil ?_
  refine jn_keep [0] [] (.cons rfl .nil) .nil ?_
  refine jn_seq (j_seq ?_)
  refine j_region ?_
  refine jg_os _ rfl (op_obslice (rt := rInt .i64) (ds := []) Try.underlying22 ty3 z3 rfl .nil rfl rfl rfl rfl rfl) ?_
  refine jg_adr _ rfl _ rfl rfl (op_move (.base rfl)) ?_
  refine jg_os _ rfl (op_append [] Try.underlying22 ty3 z3 rfl by3 (.base rfl) rfl (by (try simp); try omega) (.tv (.base rfl)) (by unfold maxLen; (try simp); try omega) (by (try simp); try omega) rfl .nil rfl) ?_
  refine jg_adr _ rfl _ rfl rfl (op_assign (.base rfl)) ?_
  refine jg_nil ?_
  refine jn_keep [3] [7] (.cons rfl .nil) (.cons rfl .nil) ?_
  refine jn_seq (j_seq (j_seq ?_))
  refine j_region ?_
  refine jg_adr _ rfl _ rfl rfl (op_assign (.base rfl)) ?_
  refine jg_nil ?_
  refine jn_keep [3, 4] [7] (.cons rfl (.cons rfl .nil)) (.cons rfl .nil) ?_
  refine jn_seq (j_block ?_)
  refine j_loopp (ι := Nat × List Int) (fun (i, cur) => ⟨[(3, .own 7 (rInt .i64).n 0 l.length), (4, .raw (.int .i64 ((i : Nat))))], [(7, ⟨rInt .i64, cur⟩)]⟩) (fun (i, cur) => (1 ≤ i ∧ cur.length = l.length) ∧ cur.Perm l ∧ (cur.take i).Pairwise (· ≤ ·)) (fun (i, cur) => l.length - i) (1, l) (⟨⟨Nat.le_refl _, rfl⟩, List.Perm.refl _, by cases l <;> simp⟩) (fun a w hi => (Sub.inv ⟨(by repeat (first | exact SubS_nil | refine SubS_cons rfl (by first | rfl | exact congrArg (SV.own 7 (rInt .i64).n 0) (by simp)) ?_)), (by repeat (first | exact SubH_nil | refine SubH_cons rfl (by first | rfl | (refine congrArg (HB.mk (rInt .i64)) ?_; simp; done)) ?_))⟩ hi)) ?_
  rintro ⟨i, cur⟩ ⟨⟨p1, pl⟩, p2, p3⟩
  refine j_seq (j_seq ?_)
  refine j_region ?_
  refine jg_adr _ rfl _ rfl rfl (op_move (.base rfl)) ?_
  refine jg_adr _ rfl _ rfl rfl (op_move (.base rfl)) ?_
  refine jg_adr _ rfl _ rfl rfl (op_len_own Try.underlying22 (.base rfl)) ?_
  refine jg_adr _ rfl _ rfl rfl (op_lss (.base rfl) (.base rfl)) ?_
  refine jg_nil ?_
  refine jn_keep [3, 4, 13] [7] (.cons rfl (.cons rfl (.cons rfl .nil))) (.cons rfl .nil) ?_
  refine jn_seq ?_
  refine j_cond rfl (fun h3 => ?_) (fun h3 => ?_)
  · simp at h3
    have hi2 : i < cur.length := by omega
    refine j_skip (jn_seq (j_seq (j_block (j_seq ?_))))
    refine j_region ?_
    refine jg_adr _ rfl _ rfl rfl (op_move (.base rfl)) ?_
    refine jg_adr _ rfl _ rfl rfl (op_assign (.base rfl)) ?_
    refine jg_nil ?_
    refine jn_keep [3, 4, 5] [7] (.cons rfl (.cons rfl (.cons rfl .nil))) (.cons rfl .nil) ?_
    refine jn_seq (j_block ?_)
    rw [← insA_i hi2]
    refine j_loopp (ι := Nat) (fun k => ⟨[(3, .own 7 (rInt .i64).n 0 l.length), (4, .raw (.int .i64 ((i : Nat)))), (5, .raw (.int .i64 ((k : Nat))))], [(7, ⟨rInt .i64, (insA cur i k)⟩)]⟩) (fun k => k ≤ i ∧ ∀ y ∈ (cur.take i).drop k, cur.getD i 0 < y) (fun k => k) i (⟨Nat.le_refl _, by rw [List.drop_of_length_le (by simp; omega)]; simp⟩) (fun a w hi => (Sub.inv ⟨(by repeat (first | exact SubS_nil | refine SubS_cons rfl (by first | rfl | (simp; done) | assumption) ?_)), (by repeat (first | exact SubH_nil | refine SubH_cons rfl (by first | rfl | (simp; done) | assumption) ?_))⟩ hi)) ?_
    rintro k ⟨hk2, hd⟩
    have hil := insA_len hi2 hk2
    have hat := insA_at hi2 hk2
    refine j_seq (j_seq ?_)
    refine j_draw mo (by kernel_rfl) (
      AS.cons _ _ rfl (ga_adr rfl rfl rfl (op_move (.base rfl))) (
        AS.cons _ _ rfl (ga_adr rfl rfl rfl (op_gtr (.base rfl) (.base rfl))) (
        AS.cons _ _ rfl (ga_adr rfl rfl rfl (op_move (.base rfl))) (
        AS.cons _ _ rfl (ga_gd _ _ _ _ rfl rfl rfl rfl rfl (fun hg => op_move (.base rfl))) (
        AS.cons _ _ rfl (ga_gd _ _ _ _ rfl rfl rfl rfl rfl (fun hg => op_move (.base rfl))) (
        AS.cons _ _ rfl (ga_gd _ _ _ _ rfl rfl rfl rfl rfl (fun hg => op_sub (.gd rfl hg) (.base rfl) (w64 (by omega)))) (
        AS.cons _ _ rfl (ga_gd _ _ _ _ rfl rfl rfl rfl rfl (fun hg => op_oindex Try.underlying22 ty3 (.gd rfl hg) (.gd rfl hg) (show ((k : Int) - 1 = ((k - 1 : Nat) : Int)) by simp at hg; omega) (by simp at hg; omega))) (
        AS.cons _ _ rfl (ga_gd _ _ _ _ rfl rfl rfl rfl rfl (fun hg => op_oload ty3 (.gd rfl hg) rfl (getD_some (z := (0 : Int)) (by rw [hil]; simp at hg; omega)) (Lens.id _))) (
        AS.cons _ _ rfl (ga_gd _ _ _ _ rfl rfl rfl rfl rfl (fun hg => op_move (.base rfl))) (
        AS.cons _ _ rfl (ga_gd _ _ _ _ rfl rfl rfl rfl rfl (fun hg => op_move (.base rfl))) (
        AS.cons _ _ rfl (ga_gd _ _ _ _ rfl rfl rfl rfl rfl (fun hg => op_oindex Try.underlying22 ty3 (.gd rfl hg) (.gd rfl hg) rfl (by omega))) (
        AS.cons _ _ rfl (ga_gd _ _ _ _ rfl rfl rfl rfl rfl (fun hg => op_oload ty3 (.gd rfl hg) rfl (getD_some (z := (0 : Int)) (by rw [hil]; omega)) (Lens.id _))) (
        AS.cons _ _ rfl (ga_gd _ _ _ _ rfl rfl rfl rfl rfl (fun hg => op_gtr (.gd rfl hg) (.gd rfl hg))) (
        AS.cons _ _ rfl (ga_adr rfl rfl rfl (op_pick_and (.base rfl) (.base rfl) rfl (by intro h; first | (rw [h]; rfl) | (rw [hg, h]; rfl) | (rw [h, hg]; rfl) | simp_all))) (
        AS.nil))))))))))))))) ?_
    refine jn_keep [3, 4, 5, 30] [7] (.cons rfl (.cons rfl (.cons rfl (.cons rfl .nil)))) (.cons rfl .nil) ?_
    refine jn_seq ?_
    refine j_cond rfl (fun h6 => ?_) (fun h6 => ?_)
    · have k0 : 0 < k := by simp at h6; omega
      have hpre := insA_pre hi2 hk2 k0
      have kgt : cur.getD i 0 < cur.getD (k - 1) 0 := by
        simp only [Nat.zero_add, hat, hpre, Option.getD_some, Bool.and_eq_true, decide_eq_true_eq] at h6; omega
      have hat0 : (insA cur i k)[0 + k]? = some (cur.getD i 0) := by rw [Nat.zero_add]; exact hat
      have hpre0 : (insA cur i k)[0 + (k - 1)]? = some (cur.getD (k - 1) 0) := by rw [Nat.zero_add]; exact hpre
      refine j_skip (jn_seq (j_seq (j_block (j_seq ?_))))
      refine j_region ?_
      refine jg_adr _ rfl _ rfl rfl (op_move (.base rfl)) ?_
      refine jg_adr _ rfl _ rfl rfl (op_move (.base rfl)) ?_
      refine jg_adr _ rfl _ rfl rfl (op_oindex Try.underlying22 ty3 (.base rfl) (.base rfl) rfl (by first | omega | (simp; done) | (simp; omega))) ?_
      refine jg_adr _ rfl _ rfl rfl (op_oload ty3 (.base rfl) rfl hat0 (Lens.id _)) ?_
      refine jg_adr _ rfl _ rfl rfl (op_assign (.base rfl)) ?_
      refine jg_nil ?_
      refine jn_keep [3, 4, 5, 6] [7] (.cons rfl (.cons rfl (.cons rfl (.cons rfl .nil)))) (.cons rfl .nil) ?_
      refine jn_seq (j_seq ?_)
      refine j_region ?_
      refine jg_adr _ rfl _ rfl rfl (op_move (.base rfl)) ?_
      refine jg_adr _ rfl _ rfl rfl (op_move (.base rfl)) ?_
      refine jg_adr _ rfl _ rfl rfl (op_move (.base rfl)) ?_
      refine jg_adr _ rfl _ rfl rfl (op_move (.base rfl)) ?_
      refine jg_adr _ rfl _ rfl rfl (op_sub (.base rfl) (.base rfl) (w64 (by omega))) ?_
      refine jg_adr _ rfl _ rfl rfl (op_oindex Try.underlying22 ty3 (.base rfl) (.base rfl) (show ((k : Int) - 1 = ((k - 1 : Nat) : Int)) by omega) (by first | omega | (simp; done) | (simp; omega))) ?_
      refine jg_adr _ rfl _ rfl rfl (op_oload ty3 (.base rfl) rfl hpre0 (Lens.id _)) ?_
      refine jg_adr _ rfl _ rfl rfl (op_oindex Try.underlying22 ty3 (.base rfl) (.base rfl) rfl (by first | omega | (simp; done) | (simp; omega))) ?_
      refine jg_os _ rfl (op_ostore ty3 (.base rfl) rfl hat0 (Lens.id _) (.raw (.base rfl) rfl)) ?_
      refine jg_nil ?_
      refine jn_keep [3, 4, 5, 6] [7] (.cons rfl (.cons rfl (.cons rfl (.cons rfl .nil)))) (.cons rfl .nil) ?_
      refine jn_seq ?_
      refine j_region ?_
      refine jg_adr _ rfl _ rfl rfl (op_move (.base rfl)) ?_
      refine jg_adr _ rfl _ rfl rfl (op_move (.base rfl)) ?_
      refine jg_adr _ rfl _ rfl rfl (op_sub (.base rfl) (.base rfl) (w64 (by omega))) ?_
      refine jg_adr _ rfl _ rfl rfl (op_move (.base rfl)) ?_
      refine jg_adr _ rfl _ rfl rfl (op_oindex Try.underlying22 ty3 (.base rfl) (.base rfl) (show ((k : Int) - 1 = ((k - 1 : Nat) : Int)) by omega) (by first | omega | (simp; done) | (simp; omega))) ?_
      refine jg_os _ rfl (op_ostore ty3 (.base rfl) rfl (by rw [List.getElem?_set_ne (by omega)]; exact hpre0) (Lens.id _) (.raw (.base rfl) rfl)) ?_
      refine jg_nil ?_
      refine jn_keep [3, 4, 5] [7] (.cons rfl (.cons rfl (.cons rfl .nil))) (.cons rfl .nil) ?_
      refine jn_blk (jn_seq ?_)
      refine j_region ?_
      refine jg_adr _ rfl _ rfl rfl (op_move (.base rfl)) ?_
      refine jg_adr _ rfl _ rfl rfl (op_sub (.base rfl) (.base rfl) (w64 (by omega))) ?_
      refine jg_adr _ rfl _ rfl rfl (op_assign (.base rfl)) ?_
      refine jg_nil ?_
      refine jn_keep [3, 4, 5] [7] (.cons rfl (.cons rfl (.cons rfl .nil))) (.cons rfl .nil) ?_
      exact jn_loop (fun a w hi => ⟨k - 1, (by omega), ⟨by omega, insA_step hi2 hk2 k0 kgt hd⟩, Sub.inv ⟨(by repeat (first | exact SubS_nil | refine SubS_cons rfl (by first | rfl | exact congrArg (fun z => SV.raw (Value.int .i64 z)) (by omega)) ?_)), (by repeat (first | exact SubH_nil | refine SubH_cons rfl (by first | rfl | exact congrArg (HB.mk (rInt .i64)) (by rw [Nat.zero_add, Nat.zero_add]; exact insA_set hi2 hk2 k0)) ?_))⟩ hi⟩)
    · have hend : k = 0 ∨ cur.getD (k - 1) 0 ≤ cur.getD i 0 := by
        rcases Nat.eq_zero_or_pos k with q | q
        · exact .inl q
        · have hpre := insA_pre hi2 hk2 q
          simp only [Nat.zero_add, hat, hpre, Option.getD_some, Bool.and_eq_false_iff, decide_eq_false_iff_not] at h6; omega
      refine j_exit (je_seq (je_loop (je_blk (jn_blk (jn_seq ?_)))))
      refine j_region ?_
      refine jg_adr _ rfl _ rfl rfl (op_move (.base rfl)) ?_
      refine jg_adr _ rfl _ rfl rfl (op_add (.base rfl) (.base rfl) (w64 (by omega))) ?_
      refine jg_adr _ rfl _ rfl rfl (op_assign (.base rfl)) ?_
      refine jg_nil ?_
      refine jn_keep [3, 4] [7] (.cons rfl (.cons rfl .nil)) (.cons rfl .nil) ?_
      exact jn_loop (fun a w hi => ⟨(i + 1, (insA cur i k)), (by show l.length - (i + 1) < l.length - i; omega), ⟨⟨by omega, by rw [insA_len hi2 hk2]; exact pl⟩, (insA_perm hi2 hk2).trans p2, insA_sorted hi2 hk2 p3 hd hend⟩, (Sub.inv ⟨(by repeat (first | exact SubS_nil | refine SubS_cons rfl (by first | rfl | (simp; done) | assumption) ?_)), (by repeat (first | exact SubH_nil | refine SubH_cons rfl (by first | rfl | (simp; done) | assumption) ?_))⟩ hi)⟩)
  · simp at h3
    refine j_exit (je_seq (je_loop (je_blk (jn_seq (j_seq ?_)))))
    refine j_region ?_
    refine jg_adr _ rfl _ rfl rfl (op_move (.base rfl)) ?_
    refine jg_adr _ rfl _ rfl rfl (op_assign (.base rfl)) ?_
    refine jg_nil ?_
    refine jn_keep [2] [7] (.cons rfl .nil) (.cons rfl .nil) ?_
    refine jn_seq (j_ret ?_)
    refine jr_seal (rt := rInt .i64) 7 2 (dropH 7 _) rfl rfl (by omega) (dropH_sub 7 _) (dropH_no 7 _) ?_
    exact jr_fin1 Try.results25 (res_tmp rfl) rfl (congrArg (SV.tv (rSlice (rInt .i64))) (by rw [List.drop_zero, List.take_of_length_le (by omega)]; exact srt_eq p2 (by rwa [List.take_of_length_le (by omega)] at p3)))

end Go.Proofs.Ytfmoolclokffjaa
