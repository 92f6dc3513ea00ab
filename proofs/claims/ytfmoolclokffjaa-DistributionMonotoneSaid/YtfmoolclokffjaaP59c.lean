import Derived.Test.YtfmoolclokffjaaP59n
namespace Go.Proofs.Ytfmoolclokffjaa
open Go.Eng
set_option maxRecDepth 100000
set_option maxHeartbeats 4000000
set_option linter.unusedVariables false
set_option linter.unusedSimpArgs false


def encB (b : TBucket) : List Value := [.int .i64 b.1, .int .i64 b.2.1, .int .i64 b.2.2.1, .int .i64 b.2.2.2]
theorem exactB : Exact rBucket encB := exact_pair exact_int (exact_pair exact_int (exact_pair exact_int (exact_one exact_int)))
theorem add_calls (b o : Nat) (c s v : Int) (w : World) (h1 : w.cell? ⟨b, o + 2, none⟩ = some (.int .i64 c)) (f1 : w.frozen? ⟨b, o + 2, none⟩ = false) (h2 : w.cell? ⟨b, o + 3, none⟩ = some (.int .i64 s)) (f2 : w.frozen? ⟨b, o + 3, none⟩ = false) :
    Calls Try.prog 27 #[.pointer (some ⟨b, o, none⟩), .int .i64 v] w fun e w' => e = .returned (.tuple #[]) ∧ w' = (w.setCell ⟨b, o + 2, none⟩ (.int .i64 (RowKit.wrap64 (c + 1)))).setCell ⟨b, o + 3, none⟩ (.int .i64 (RowKit.wrap64 (s + v))) := by
  go_enter Try.func27, Try.ntmps27
  go_wp2
  go_end0
  exact ⟨rfl, rfl⟩
theorem wrap64_eq {v : Int} (h : -9223372036854775808 ≤ v ∧ v ≤ 9223372036854775807) : RowKit.wrap64 v = v := by unfold RowKit.wrap64; omega
theorem add_ok (b : TBucket) (v : Int) (h1 : -9223372036854775808 ≤ b.2.2.1 + 1 ∧ b.2.2.1 + 1 ≤ 9223372036854775807) (h2 : -9223372036854775808 ≤ b.2.2.2 + v ∧ b.2.2.2 + v ≤ 9223372036854775807) :
    CtW Try.prog 27 rBucket.n encB (.int .i64 v) b (addB b v) where
  ent := callFunc_enter Try.func27 rfl (by kernel_rfl)
  calls w blk o cur e hh hsz hc := by
    have hsz : o + 4 ≤ cur.size := hsz
    have e2 : cur[o + 2]? = some (.int .i64 b.2.2.1) := hc 2 (by decide)
    have e3 : cur[o + 3]? = some (.int .i64 b.2.2.2) := hc 3 (by decide)
    refine (add_calls blk o b.2.2.1 b.2.2.2 v w (by simp [World.cell?, hh, e2]) (by simp [World.frozen?, hh]) (by simp [World.cell?, hh, e3]) (by simp [World.frozen?, hh])).mono ?_
    rintro e' w' ⟨rfl, rfl⟩
    rw [wrap64_eq h1, wrap64_eq h2, setCell_row hh, setCell_row (setRow_heap _ _ _ _ _ _ hh), setRow_setRow]
    refine ⟨rfl, _, by simp, fun j hj => ?_, fun j hj => ?_, rfl⟩
    · have hj : j < 4 := hj
      have e0 : cur[o + 0]? = some (.int .i64 b.1) := hc 0 (by decide)
      have e1 : cur[o + 1]? = some (.int .i64 b.2.1) := hc 1 (by decide)
      obtain rfl | rfl | rfl | rfl : j = 0 ∨ j = 1 ∨ j = 2 ∨ j = 3 := by omega
      · rw [Array.getElem?_setIfInBounds_ne (by omega), Array.getElem?_setIfInBounds_ne (by omega), e0]; rfl
      · rw [Array.getElem?_setIfInBounds_ne (by omega), Array.getElem?_setIfInBounds_ne (by omega), e1]; rfl
      · rw [Array.getElem?_setIfInBounds_ne (by omega), Array.getElem?_setIfInBounds_self_of_lt (by omega)]; rfl
      · rw [Array.getElem?_setIfInBounds_self_of_lt (by simp; omega)]; rfl
    · have hj : j < o ∨ o + 4 ≤ j := hj
      rw [Array.getElem?_setIfInBounds_ne (by omega), Array.getElem?_setIfInBounds_ne (by omega)]
def svBI (p : List TBucket × Int) : SV := SV.tup2 (.tv (rSlice rBucket) p.1) (.raw (.int .i64 p.2))
theorem svBI_eq {p : List TBucket × Int} {a : List TBucket} {b : Int} (h : (a, b) = p) : SV.tup2 (.tv (rSlice rBucket) a) (.raw (.int .i64 b)) = svBI p := by subst h; rfl
theorem zip_drop {gs l : List Int} {k : Nat} (h : k < gs.length) (h2 : k < l.length) : (gs.zip l).drop k = (gs[k], l[k]) :: (gs.zip l).drop (k + 1) := by
  rw [List.drop_eq_getElem_cons (by simp; omega), List.getElem_zip]
theorem zip_end {gs l : List Int} {k : Nat} (h : gs.length ≤ k) : (gs.zip l).drop k = [] := List.drop_of_length_le (by simp; omega)

theorem grp_ok (l gs : List Int) (n : Int) : Ct Try.prog 17 [.tv (rSlice (rInt .i64)) l, .tv (rSlice (rInt .i64)) gs, .raw (.int .i64 n)] (svBI (grpR l gs n)) := by
  refine ct_intro Try.func17 rfl rfl Try.ntmps17 rfl rfl ?_
  intro w0 ok0
  refine j_len 0 rfl (fun hl0 => ?_)
  refine j_len 1 rfl (fun hl1 => ?_)
  refine j_seq ?_
  refine j_region ?_
  refine jg_adr _ rfl _ rfl rfl (op_assign (.base rfl)) ?_
  refine jg_adr _ rfl _ rfl rfl (op_assign (.base rfl)) ?_
  refine jg_nil ?_
  refine jn_keep [0, 1, 2] [] (.cons rfl (.cons rfl (.cons rfl .nil))) .nil ?_
  refine jn_seq (j_seq (j_seq ?_))
  refine j_region ?_
  refine jg_adr _ rfl _ rfl rfl (op_move (.base rfl)) ?_
  refine jg_adr _ rfl _ rfl rfl (op_len Try.underlying22 (.base rfl)) ?_
  refine jg_adr _ rfl _ rfl rfl (op_move (.base rfl)) ?_
  refine jg_adr _ rfl _ rfl rfl (op_len Try.underlying22 (.base rfl)) ?_
  refine jg_adr _ rfl _ rfl rfl (op_neq (.base rfl) (.base rfl)) ?_
  refine jg_nil ?_
  refine jn_keep [0, 1, 2, 16] [] (.cons rfl (.cons rfl (.cons rfl (.cons rfl .nil)))) .nil ?_
  refine jn_seq ?_
  refine j_cond rfl (fun h1 => ?_) (fun h1 => ?_)
  · have k1 : l.length ≠ gs.length := by simp at h1; omega
    refine j_seq ?_
    refine j_region ?_
    refine jg_adr _ rfl _ rfl rfl (op_assign (.base rfl)) ?_
    refine jg_adr _ rfl _ rfl rfl (op_assign (.base rfl)) ?_
    refine jg_nil ?_
    refine jn_keep [6, 7] [] (.cons rfl (.cons rfl .nil)) .nil ?_
    refine jn_seq (j_ret (jr_seq ?_))
    exact jr_fin2 Try.results17 (res_nil rfl) (res_tmp rfl) ⟨rfl, rfl⟩ (svBI_eq (by unfold grpR; rw [if_pos k1]))
  · have k1 : l.length = gs.length := by simp at h1; omega
    refine j_skip (jn_seq (j_seq (j_seq ?_)))
    refine j_region ?_
    refine jg_adr _ rfl _ rfl rfl (op_move (.base rfl)) ?_
    refine jg_adr _ rfl _ rfl rfl (op_len Try.underlying22 (.base rfl)) ?_
    refine jg_adr _ rfl _ rfl rfl (op_gtr (.base rfl) (.base rfl)) ?_
    refine jg_adr _ rfl _ rfl rfl (op_move (.base rfl)) ?_
    refine jg_gd _ _ _ _ _ _ rfl rfl rfl rfl rfl (fun hg => op_move (.base rfl)) ?_
    refine jg_gd _ _ _ _ _ _ rfl rfl rfl rfl rfl (fun hg => op_gtr (.gd rfl hg) (.base rfl)) ?_
    refine jg_adr _ rfl _ rfl rfl (op_pick_or (.base rfl) (.base rfl) rfl (by intro h; first | (rw [h]; rfl) | (rw [hg, h]; rfl) | (rw [h, hg]; rfl) | simp_all)) ?_
    refine jg_nil ?_
    refine jn_keep [0, 1, 2, 23] [] (.cons rfl (.cons rfl (.cons rfl (.cons rfl .nil)))) .nil ?_
    refine jn_seq ?_
    refine j_cond rfl (fun h3 => ?_) (fun h3 => ?_)
    · have k3 : 4096 < l.length ∨ 64 < n := by simp at h3; omega
      refine j_seq ?_
      refine j_region ?_
      refine jg_adr _ rfl _ rfl rfl (op_assign (.base rfl)) ?_
      refine jg_adr _ rfl _ rfl rfl (op_assign (.base rfl)) ?_
      refine jg_nil ?_
      refine jn_keep [6, 7] [] (.cons rfl (.cons rfl .nil)) .nil ?_
      refine jn_seq (j_ret (jr_seq ?_))
      exact jr_fin2 Try.results17 (res_nil rfl) (res_tmp rfl) ⟨rfl, rfl⟩ (svBI_eq (by unfold grpR; rw [if_neg (by omega), if_pos k3]))
    · have k3 : ¬ (4096 < l.length ∨ 64 < n) := by simp at h3; omega
      refine j_skip (jn_seq (j_seq (j_seq ?_)))
      refine j_region ?_
      refine jg_adr _ rfl _ rfl rfl (op_move (.base rfl)) ?_
      refine jg_adr _ rfl _ rfl rfl (op_lss (.base rfl) (.base rfl)) ?_
      refine jg_adr _ rfl _ rfl rfl (op_move (.base rfl)) ?_
      refine jg_gd _ _ _ _ _ _ rfl rfl rfl rfl rfl (fun hg => op_move (.base rfl)) ?_
      refine jg_gd _ _ _ _ _ _ rfl rfl rfl rfl rfl (fun hg => op_call (within_ok _) (.cons (.gd rfl hg) .nil) rfl rfl) ?_
      refine jg_gd _ _ _ _ _ _ rfl rfl rfl rfl rfl (fun hg => op_not (.gd rfl hg)) ?_
      refine jg_adr _ rfl _ rfl rfl (op_pick_or (.base rfl) (.base rfl) rfl (by intro h; first | (rw [h]; rfl) | (rw [hg, h]; rfl) | (rw [h, hg]; rfl) | simp_all)) ?_
      refine jg_nil ?_
      refine jn_keep [0, 1, 2, 30] [] (.cons rfl (.cons rfl (.cons rfl (.cons rfl .nil)))) .nil ?_
      refine jn_seq ?_
      refine j_cond rfl (fun h5 => ?_) (fun h5 => ?_)
      · have k5 : n < 1 ∨ okL l = false := by simpa using h5
        refine j_seq ?_
        refine j_region ?_
        refine jg_adr _ rfl _ rfl rfl (op_assign (.base rfl)) ?_
        refine jg_adr _ rfl _ rfl rfl (op_assign (.base rfl)) ?_
        refine jg_nil ?_
        refine jn_keep [6, 7] [] (.cons rfl (.cons rfl .nil)) .nil ?_
        refine jn_seq (j_ret (jr_seq ?_))
        exact jr_fin2 Try.results17 (res_nil rfl) (res_tmp rfl) ⟨rfl, rfl⟩ (svBI_eq (by unfold grpR; rw [if_neg (by omega), if_neg k3, if_pos k5]))
      · have k5 : okL l = true := by simp at h5; exact h5.2
        have k6 : 1 ≤ n := by simp at h5; omega
        have hok := okL_iff.1 k5
        obtain ⟨N, rfl⟩ : ∃ N : Nat, n = (N : Int) := ⟨n.toNat, by omega⟩
        refine j_skip (jn_seq (j_seq ?_))
        refine j_region ?_
        refine jg_adr _ rfl _ rfl rfl (op_move (.base rfl)) ?_
        refine jg_os _ rfl (op_make Try.underlying28 ty44 z44 rfl by44 (.base rfl) (.base rfl) (by omega) (by unfold maxLen; omega) rfl rfl rfl) ?_
        refine jg_adr _ rfl _ rfl rfl (op_assign (.base rfl)) ?_
        refine jg_nil ?_
        refine jn_keep [0, 1, 2, 8] [32] (.cons rfl (.cons rfl (.cons rfl (.cons rfl .nil)))) (.cons rfl .nil) ?_
        refine jn_seq (j_seq (j_seq ?_))
        refine j_region ?_
        refine jg_adr _ rfl _ rfl rfl (op_move (.base rfl)) ?_
        refine jg_adr _ rfl _ rfl rfl (op_len_own Try.underlying28 (.base rfl)) ?_
        refine jg_adr _ rfl _ rfl rfl (op_move (.base rfl)) ?_
        refine jg_nil ?_
        refine jn_keep [0, 1, 2, 8, 34, 35] [32] (.cons rfl (.cons rfl (.cons rfl (.cons rfl (.cons rfl (.cons rfl .nil)))))) (.cons rfl .nil) ?_
        refine jn_seq (j_block ?_)
        refine j_loopp (ι := Nat) (fun i => ⟨[(0, .tv (rSlice (rInt .i64)) l), (1, .tv (rSlice (rInt .i64)) gs), (2, .raw (.int .i64 ((N : Int)))), (8, .own 32 rBucket.n 0 N), (34, .raw (.int .i64 ((N : Nat)))), (35, .raw (.int .i64 ((i : Nat))))], [(32, ⟨rBucket, fillG i N⟩)]⟩) (fun i => i ≤ N) (fun i => N - i) 0 (Nat.zero_le _) (fun a w hi => (Sub.inv ⟨(by repeat (first | exact SubS_nil | refine SubS_cons rfl (by first | rfl | exact congrArg (SV.own 32 rBucket.n 0) (by simp)) ?_)), (by repeat (first | exact SubH_nil | refine SubH_cons rfl (by first | rfl | exact congrArg (HB.mk rBucket) (fillG_0 N).symm) ?_))⟩ hi)) ?_
        rintro i hi1
        have hfl := fillG_len hi1
        refine j_seq ?_
        refine j_region ?_
        refine jg_adr _ rfl _ rfl rfl (op_lss (.base rfl) (.base rfl)) ?_
        refine jg_nil ?_
        refine jn_keep [0, 1, 2, 8, 34, 35, 36] [32] (.cons rfl (.cons rfl (.cons rfl (.cons rfl (.cons rfl (.cons rfl (.cons rfl .nil))))))) (.cons rfl .nil) ?_
        refine jn_seq (j_seq ?_)
        refine j_cond rfl (fun h9 => ?_) (fun h9 => ?_)
        · have h9 : i < N := by simpa using h9
          refine j_skip (jn_seq (j_seq (j_block (j_seq ?_))))
          refine j_region ?_
          refine jg_adr _ rfl _ rfl rfl (op_move (.base rfl)) ?_
          refine jg_adr _ rfl _ rfl rfl (op_assign (.base rfl)) ?_
          refine jg_nil ?_
          refine jn_keep [0, 1, 2, 8, 9, 34, 35] [32] (.cons rfl (.cons rfl (.cons rfl (.cons rfl (.cons rfl (.cons rfl (.cons rfl .nil))))))) (.cons rfl .nil) ?_
          refine jn_seq (j_seq ?_)
          refine j_region ?_
          refine jg_adr _ rfl _ rfl rfl (op_move (.base rfl)) ?_
          refine jg_adr _ rfl _ rfl rfl (op_move (.base rfl)) ?_
          refine jg_adr _ rfl _ rfl rfl (op_move (.base rfl)) ?_
          refine jg_adr _ rfl _ rfl rfl (op_oindex Try.underlying28 ty44 (.base rfl) (.base rfl) rfl (by first | omega | (simp; done) | (simp; omega))) ?_
          refine jg_adr _ rfl _ rfl rfl (op_ofield fld44_0 (.base rfl)) ?_
          refine jg_os _ rfl (op_ostore ty3 (.base rfl) rfl (by rw [Nat.zero_add]; exact fillG_at h9) ln44_0 (.raw (.base rfl) rfl)) ?_
          refine jg_nil ?_
          refine jn_keep [0, 1, 2, 8, 9, 34, 35] [32] (.cons rfl (.cons rfl (.cons rfl (.cons rfl (.cons rfl (.cons rfl (.cons rfl .nil))))))) (.cons rfl .nil) ?_
          refine jn_seq ?_
          refine j_region ?_
          refine jg_adr _ rfl _ rfl rfl (op_move (.base rfl)) ?_
          refine jg_adr _ rfl _ rfl rfl (op_move (.base rfl)) ?_
          refine jg_adr _ rfl _ rfl rfl (op_move (.base rfl)) ?_
          refine jg_adr _ rfl _ rfl rfl (op_add (.base rfl) (.base rfl) (w64 (by omega))) ?_
          refine jg_adr _ rfl _ rfl rfl (op_oindex Try.underlying28 ty44 (.base rfl) (.base rfl) rfl (by first | omega | (simp; done) | (simp; omega))) ?_
          refine jg_adr _ rfl _ rfl rfl (op_ofield fld44_1 (.base rfl)) ?_
          refine jg_os _ rfl (op_ostore ty3 (.base rfl) rfl (List.getElem?_set_self (by rw [Nat.zero_add, hfl]; exact h9)) ln44_1 (.raw (.base rfl) rfl)) ?_
          refine jg_nil ?_
          refine jn_keep [0, 1, 2, 8, 34, 35] [32] (.cons rfl (.cons rfl (.cons rfl (.cons rfl (.cons rfl (.cons rfl .nil)))))) (.cons rfl .nil) ?_
          refine jn_blk (jn_seq ?_)
          refine j_region ?_
          refine jg_adr _ rfl _ rfl rfl (op_add (.base rfl) (.base rfl) (w64 (by omega))) ?_
          refine jg_adr _ rfl _ rfl rfl (op_move (.base rfl)) ?_
          refine jg_nil ?_
          refine jn_keep [0, 1, 2, 8, 34, 35] [32] (.cons rfl (.cons rfl (.cons rfl (.cons rfl (.cons rfl (.cons rfl .nil)))))) (.cons rfl .nil) ?_
          exact jn_loop (fun a w hi => ⟨i + 1, (by omega), (by omega), Sub.inv ⟨(by repeat (first | exact SubS_nil | refine SubS_cons rfl (by first | rfl | (simp; done) | assumption) ?_)), (by repeat (first | exact SubH_nil | refine SubH_cons rfl (by first | rfl | exact congrArg (HB.mk rBucket) (by rw [Nat.zero_add, List.set_set]; exact fillG_set h9)) ?_))⟩ hi⟩)
        · have h9 : ¬ i < N := by simpa using h9
          obtain rfl : N = i := by omega
          refine j_exit (je_seq (je_loop (je_blk (jn_seq (j_seq (j_seq ?_))))))
          rw [fillG_n]
          refine j_region ?_
          refine jg_adr _ rfl _ rfl rfl (op_move (.base rfl)) ?_
          refine jg_adr _ rfl _ rfl rfl (op_len Try.underlying22 (.base rfl)) ?_
          refine jg_adr _ rfl _ rfl rfl (op_move (.base rfl)) ?_
          refine jg_nil ?_
          refine jn_keep [0, 2, 8, 50, 51, 52] [32] (.cons rfl (.cons rfl (.cons rfl (.cons rfl (.cons rfl (.cons rfl .nil)))))) (.cons rfl .nil) ?_
          refine jn_seq (j_block ?_)
          refine j_loopp (ι := Nat × List TBucket) (fun (k, bs) => ⟨[(0, .tv (rSlice (rInt .i64)) l), (2, .raw (.int .i64 ((N : Int)))), (8, .own 32 rBucket.n 0 N), (50, .tv (rSlice (rInt .i64)) gs), (51, .raw (.int .i64 (gs.length))), (52, .raw (.int .i64 ((k : Nat))))], [(32, ⟨rBucket, bs⟩)]⟩) (fun (k, bs) => (k ≤ gs.length ∧ bs.length = N) ∧ BdB k bs ∧ grpF N bs ((gs.zip l).drop k) = grpF N (initG N) (gs.zip l)) (fun (k, bs) => gs.length - k) (0, initG N) (⟨⟨Nat.zero_le _, initG_len N⟩, initG_bd N, rfl⟩) (fun a w hi => (Sub.inv ⟨(by repeat (first | exact SubS_nil | refine SubS_cons rfl (by first | rfl | (simp; done) | assumption) ?_)), (by repeat (first | exact SubH_nil | refine SubH_cons rfl (by first | rfl | (simp; done) | assumption) ?_))⟩ hi)) ?_
          rintro ⟨k, bs⟩ ⟨⟨p1, p2⟩, p3, p4⟩
          refine j_seq ?_
          refine j_region ?_
          refine jg_adr _ rfl _ rfl rfl (op_lss (.base rfl) (.base rfl)) ?_
          refine jg_nil ?_
          refine jn_keep [0, 2, 8, 50, 51, 52, 53] [32] (.cons rfl (.cons rfl (.cons rfl (.cons rfl (.cons rfl (.cons rfl (.cons rfl .nil))))))) (.cons rfl .nil) ?_
          refine jn_seq (j_seq ?_)
          refine j_cond rfl (fun h15 => ?_) (fun h15 => ?_)
          · simp at h15
            have hv := hok _ (List.getElem_mem (show k < l.length by omega))
            refine j_skip (jn_seq (j_seq (j_block (j_seq ?_))))
            refine j_region ?_
            refine jg_adr _ rfl _ rfl rfl (op_move (.base rfl)) ?_
            refine jg_adr _ rfl _ rfl rfl (op_index Try.underlying22 ty3 (.base rfl) (.base rfl) rfl (List.getElem?_eq_getElem (by first | omega | (simp; done) | (simp; omega) | (simp at hg; omega)))) ?_
            refine jg_adr _ rfl _ rfl rfl (op_load ty3 (.base rfl)) ?_
            refine jg_adr _ rfl _ rfl rfl (op_assign (.base rfl)) ?_
            refine jg_adr _ rfl _ rfl rfl (op_assign (.base rfl)) ?_
            refine jg_nil ?_
            refine jn_keep [0, 2, 8, 10, 11, 50, 51, 52] [32] (.cons rfl (.cons rfl (.cons rfl (.cons rfl (.cons rfl (.cons rfl (.cons rfl (.cons rfl .nil)))))))) (.cons rfl .nil) ?_
            refine jn_seq (j_seq (j_seq ?_))
            refine j_region ?_
            refine jg_adr _ rfl _ rfl rfl (op_move (.base rfl)) ?_
            refine jg_adr _ rfl _ rfl rfl (op_lss (.base rfl) (.base rfl)) ?_
            refine jg_adr _ rfl _ rfl rfl (op_move (.base rfl)) ?_
            refine jg_gd _ _ _ _ _ _ rfl rfl rfl rfl rfl (fun hg => op_move (.base rfl)) ?_
            refine jg_gd _ _ _ _ _ _ rfl rfl rfl rfl rfl (fun hg => op_move (.base rfl)) ?_
            refine jg_gd _ _ _ _ _ _ rfl rfl rfl rfl rfl (fun hg => op_geq (.gd rfl hg) (.gd rfl hg)) ?_
            refine jg_adr _ rfl _ rfl rfl (op_pick_or (.base rfl) (.base rfl) rfl (by intro h; first | (rw [h]; rfl) | (rw [hg, h]; rfl) | (rw [h, hg]; rfl) | simp_all)) ?_
            refine jg_nil ?_
            refine jn_keep [0, 2, 8, 10, 11, 50, 51, 52, 63] [32] (.cons rfl (.cons rfl (.cons rfl (.cons rfl (.cons rfl (.cons rfl (.cons rfl (.cons rfl (.cons rfl .nil))))))))) (.cons rfl .nil) ?_
            refine jn_seq ?_
            refine j_cond rfl (fun h17 => ?_) (fun h17 => ?_)
            · have k17 : gs[k] < 0 ∨ (N : Int) ≤ gs[k] := by simp at h17; omega
              refine j_seq ?_
              refine j_region ?_
              refine jg_adr _ rfl _ rfl rfl (op_assign (.base rfl)) ?_
              refine jg_adr _ rfl _ rfl rfl (op_assign (.base rfl)) ?_
              refine jg_nil ?_
              refine jn_keep [6, 7] [] (.cons rfl (.cons rfl .nil)) .nil ?_
              refine jn_seq (j_ret (jr_seq (jr_blk (jr_seq (jr_loop (jr_blk (jr_seq ?_)))))))
              exact jr_fin2 Try.results17 (res_nil rfl) (res_tmp rfl) ⟨rfl, rfl⟩ (svBI_eq (by unfold grpR; rw [if_neg (by omega), if_neg k3, if_neg (by rw [k5]; simp; omega)]; simp only [Int.toNat_natCast]; rw [← p4, zip_drop h15 (by omega), grpF, if_pos (by simp only; omega)]))
            · have k17 : 0 ≤ gs[k] ∧ gs[k] < N := by simp at h17; omega
              have hgt : gs[k].toNat < bs.length := by omega
              have hbg := bdB_get p3 hgt
              have hbb : bs[0 + gs[k].toNat]? = some (bs.getD gs[k].toNat b0) := by rw [Nat.zero_add]; exact getB hgt
              refine j_skip (jn_seq ?_)
              refine j_draw_bar 7 mo (by kernel_rfl) (by kernel_rfl) (
                AS.cons _ _ rfl (ga_adr rfl rfl rfl (op_move (.base rfl))) (
                  AS.cons _ _ rfl (ga_adr rfl rfl rfl (op_move (.base rfl))) (
                  AS.cons _ _ rfl (ga_adr rfl rfl rfl (op_oindex Try.underlying28 ty44 (.base rfl) (.base rfl) (Int.toNat_of_nonneg k17.1).symm (by first | omega | (simp; done) | (simp; omega)))) (
                  AS.cons _ _ rfl (ga_adr rfl rfl rfl (op_move (.base rfl))) (
                  AS.cons _ _ rfl (ga_adr rfl rfl rfl (op_move (.base rfl))) (
                  AS.cons _ _ rfl (ga_adr rfl rfl rfl (op_index Try.underlying22 ty3 (.base rfl) (.base rfl) rfl (List.getElem?_eq_getElem (by first | omega | (simp; done) | (simp; omega) | (simp at hg; omega))))) (
                  AS.cons _ _ rfl (ga_adr rfl rfl rfl (op_load ty3 (.base rfl))) (
                  AS.nil)))))))) rfl rfl (op_callW (add_ok _ _ (by omega) (by omega)) exactB (.base rfl) (.base rfl) rfl hbb rfl) (
                AS.nil) ?_
              refine jn_keep [0, 2, 8, 50, 51, 52] [32] (.cons rfl (.cons rfl (.cons rfl (.cons rfl (.cons rfl (.cons rfl .nil)))))) (.cons rfl .nil) ?_
              refine jn_blk (jn_seq ?_)
              refine j_region ?_
              refine jg_adr _ rfl _ rfl rfl (op_add (.base rfl) (.base rfl) (w64 (by omega))) ?_
              refine jg_adr _ rfl _ rfl rfl (op_move (.base rfl)) ?_
              refine jg_nil ?_
              refine jn_keep [0, 2, 8, 50, 51, 52] [32] (.cons rfl (.cons rfl (.cons rfl (.cons rfl (.cons rfl (.cons rfl .nil)))))) (.cons rfl .nil) ?_
              exact jn_loop (fun a w hi => ⟨(k + 1, putB bs gs[k].toNat l[k]), (by show gs.length - (k + 1) < gs.length - k; omega), ⟨⟨by omega, by rw [putB_len]; exact p2⟩, bdB_put p3 (by omega) hv, by rw [← p4, zip_drop h15 (by omega), grpF, if_neg (by simp only; omega)]⟩, Sub.inv ⟨(by repeat (first | exact SubS_nil | refine SubS_cons rfl (by first | rfl | (simp; done) | assumption) ?_)), (by repeat (first | exact SubH_nil | refine SubH_cons rfl (by first | rfl | exact congrArg (HB.mk rBucket) (by rw [Nat.zero_add]; rfl)) ?_))⟩ hi⟩)
          · simp at h15
            refine j_exit (je_seq (je_loop (je_blk (jn_seq (j_seq ?_)))))
            refine j_region ?_
            refine jg_adr _ rfl _ rfl rfl (op_move (.base rfl)) ?_
            refine jg_adr _ rfl _ rfl rfl (op_assign (.base rfl)) ?_
            refine jg_adr _ rfl _ rfl rfl (op_assign (.base rfl)) ?_
            refine jg_nil ?_
            refine jn_keep [6, 7] [32] (.cons rfl (.cons rfl .nil)) (.cons rfl .nil) ?_
            refine jn_seq (j_ret ?_)
            refine jr_seal (rt := rBucket) 32 6 (dropH 32 _) rfl rfl (by first | omega | (simp; done) | (simp; omega)) (dropH_sub 32 _) (dropH_no 32 _) ?_
            exact jr_fin2 Try.results17 (res_tmp rfl) (res_tmp rfl) ⟨rfl, rfl⟩ (svBI_eq (by unfold grpR; rw [if_neg (by omega), if_neg k3, if_neg (by rw [k5]; simp; omega)]; simp only [Int.toNat_natCast]; rw [← p4, zip_end (by omega), grpF]; simp only [List.drop_zero]; rw [List.take_of_length_le (by omega)]))

theorem rgrp_ok (l gs : List Int) (n : Int) : Ct Try.prog 18 [.tv (rSlice (rInt .i64)) l, .tv (rSlice (rInt .i64)) gs, .raw (.int .i64 n)] (svBI (grpR l gs n)) := by
  refine ct_intro Try.func18 rfl rfl Try.ntmps18 rfl rfl ?_
  intro w0 ok0
  refine j_len 0 rfl (fun hl0 => ?_)
  refine j_len 1 rfl (fun hl1 => ?_)
  refine j_seq ?_
  refine j_region ?_
  refine jg_adr _ rfl _ rfl rfl (op_assign (.base rfl)) ?_
  refine jg_adr _ rfl _ rfl rfl (op_assign (.base rfl)) ?_
  refine jg_nil ?_
  refine jn_keep [0, 1, 2] [] (.cons rfl (.cons rfl (.cons rfl .nil))) .nil ?_
  refine jn_seq (j_seq (j_seq ?_))
  refine j_region ?_
  refine jg_adr _ rfl _ rfl rfl (op_move (.base rfl)) ?_
  refine jg_adr _ rfl _ rfl rfl (op_len Try.underlying22 (.base rfl)) ?_
  refine jg_adr _ rfl _ rfl rfl (op_move (.base rfl)) ?_
  refine jg_adr _ rfl _ rfl rfl (op_len Try.underlying22 (.base rfl)) ?_
  refine jg_adr _ rfl _ rfl rfl (op_neq (.base rfl) (.base rfl)) ?_
  refine jg_nil ?_
  refine jn_keep [0, 1, 2, 16] [] (.cons rfl (.cons rfl (.cons rfl (.cons rfl .nil)))) .nil ?_
  refine jn_seq ?_
  refine j_cond rfl (fun h1 => ?_) (fun h1 => ?_)
  · have k1 : l.length ≠ gs.length := by simp at h1; omega
    refine j_seq ?_
    refine j_region ?_
    refine jg_adr _ rfl _ rfl rfl (op_assign (.base rfl)) ?_
    refine jg_adr _ rfl _ rfl rfl (op_assign (.base rfl)) ?_
    refine jg_nil ?_
    refine jn_keep [6, 7] [] (.cons rfl (.cons rfl .nil)) .nil ?_
    refine jn_seq (j_ret (jr_seq ?_))
    exact jr_fin2 Try.results18 (res_nil rfl) (res_tmp rfl) ⟨rfl, rfl⟩ (svBI_eq (by unfold grpR; rw [if_pos k1]))
  · have k1 : l.length = gs.length := by simp at h1; omega
    refine j_skip (jn_seq (j_seq (j_seq ?_)))
    refine j_region ?_
    refine jg_adr _ rfl _ rfl rfl (op_move (.base rfl)) ?_
    refine jg_adr _ rfl _ rfl rfl (op_len Try.underlying22 (.base rfl)) ?_
    refine jg_adr _ rfl _ rfl rfl (op_gtr (.base rfl) (.base rfl)) ?_
    refine jg_adr _ rfl _ rfl rfl (op_move (.base rfl)) ?_
    refine jg_gd _ _ _ _ _ _ rfl rfl rfl rfl rfl (fun hg => op_move (.base rfl)) ?_
    refine jg_gd _ _ _ _ _ _ rfl rfl rfl rfl rfl (fun hg => op_gtr (.gd rfl hg) (.base rfl)) ?_
    refine jg_adr _ rfl _ rfl rfl (op_pick_or (.base rfl) (.base rfl) rfl (by intro h; first | (rw [h]; rfl) | (rw [hg, h]; rfl) | (rw [h, hg]; rfl) | simp_all)) ?_
    refine jg_nil ?_
    refine jn_keep [0, 1, 2, 23] [] (.cons rfl (.cons rfl (.cons rfl (.cons rfl .nil)))) .nil ?_
    refine jn_seq ?_
    refine j_cond rfl (fun h3 => ?_) (fun h3 => ?_)
    · have k3 : 4096 < l.length ∨ 64 < n := by simp at h3; omega
      refine j_seq ?_
      refine j_region ?_
      refine jg_adr _ rfl _ rfl rfl (op_assign (.base rfl)) ?_
      refine jg_adr _ rfl _ rfl rfl (op_assign (.base rfl)) ?_
      refine jg_nil ?_
      refine jn_keep [6, 7] [] (.cons rfl (.cons rfl .nil)) .nil ?_
      refine jn_seq (j_ret (jr_seq ?_))
      exact jr_fin2 Try.results18 (res_nil rfl) (res_tmp rfl) ⟨rfl, rfl⟩ (svBI_eq (by unfold grpR; rw [if_neg (by omega), if_pos k3]))
    · have k3 : ¬ (4096 < l.length ∨ 64 < n) := by simp at h3; omega
      refine j_skip (jn_seq (j_seq (j_seq ?_)))
      refine j_region ?_
      refine jg_adr _ rfl _ rfl rfl (op_move (.base rfl)) ?_
      refine jg_adr _ rfl _ rfl rfl (op_lss (.base rfl) (.base rfl)) ?_
      refine jg_adr _ rfl _ rfl rfl (op_move (.base rfl)) ?_
      refine jg_gd _ _ _ _ _ _ rfl rfl rfl rfl rfl (fun hg => op_move (.base rfl)) ?_
      refine jg_gd _ _ _ _ _ _ rfl rfl rfl rfl rfl (fun hg => op_call (rwithin_ok _) (.cons (.gd rfl hg) .nil) rfl rfl) ?_
      refine jg_gd _ _ _ _ _ _ rfl rfl rfl rfl rfl (fun hg => op_not (.gd rfl hg)) ?_
      refine jg_adr _ rfl _ rfl rfl (op_pick_or (.base rfl) (.base rfl) rfl (by intro h; first | (rw [h]; rfl) | (rw [hg, h]; rfl) | (rw [h, hg]; rfl) | simp_all)) ?_
      refine jg_nil ?_
      refine jn_keep [0, 1, 2, 30] [] (.cons rfl (.cons rfl (.cons rfl (.cons rfl .nil)))) .nil ?_
      refine jn_seq ?_
      refine j_cond rfl (fun h5 => ?_) (fun h5 => ?_)
      · have k5 : n < 1 ∨ okL l = false := by simpa using h5
        refine j_seq ?_
        refine j_region ?_
        refine jg_adr _ rfl _ rfl rfl (op_assign (.base rfl)) ?_
        refine jg_adr _ rfl _ rfl rfl (op_assign (.base rfl)) ?_
        refine jg_nil ?_
        refine jn_keep [6, 7] [] (.cons rfl (.cons rfl .nil)) .nil ?_
        refine jn_seq (j_ret (jr_seq ?_))
        exact jr_fin2 Try.results18 (res_nil rfl) (res_tmp rfl) ⟨rfl, rfl⟩ (svBI_eq (by unfold grpR; rw [if_neg (by omega), if_neg k3, if_pos k5]))
      · have k5 : okL l = true := by simp at h5; exact h5.2
        have k6 : 1 ≤ n := by simp at h5; omega
        have hok := okL_iff.1 k5
        obtain ⟨N, rfl⟩ : ∃ N : Nat, n = (N : Int) := ⟨n.toNat, by omega⟩
        refine j_skip (jn_seq (j_seq ?_))
        refine j_region ?_
        refine jg_adr _ rfl _ rfl rfl (op_assign (.base rfl)) ?_
        refine jg_nil ?_
        refine jn_keep [0, 1, 2, 8] [] (.cons rfl (.cons rfl (.cons rfl (.cons rfl .nil)))) .nil ?_
        refine jn_seq (j_seq (j_seq ?_))
        refine j_region ?_
        refine jg_adr _ rfl _ rfl rfl (op_assign (.base rfl)) ?_
        refine jg_nil ?_
        refine jn_keep [0, 1, 2, 8, 9] [] (.cons rfl (.cons rfl (.cons rfl (.cons rfl (.cons rfl .nil))))) .nil ?_
        refine jn_seq (j_block ?_)
        refine j_vac 70 8 rBucket rfl rfl rfl ?_
        refine j_loopp (ι := Nat) (fun i => ⟨[(0, .tv (rSlice (rInt .i64)) l), (1, .tv (rSlice (rInt .i64)) gs), (2, .raw (.int .i64 ((N : Int)))), (8, .own 70 rBucket.n 0 (initG i).length), (9, .raw (.int .i64 ((i : Nat))))], [(70, ⟨rBucket, initG i⟩)]⟩) (fun i => i ≤ N) (fun i => N - i) 0 (Nat.zero_le _) (fun a w hi => (Sub.inv ⟨(by repeat (first | exact SubS_nil | refine SubS_cons rfl (by first | rfl | (simp; done) | assumption) ?_)), (by repeat (first | exact SubH_nil | refine SubH_cons rfl (by first | rfl | (simp; done) | assumption) ?_))⟩ hi)) ?_
        rintro i hi1
        have hil := initG_len i
        refine j_seq (j_seq ?_)
        refine j_region ?_
        refine jg_adr _ rfl _ rfl rfl (op_move (.base rfl)) ?_
        refine jg_adr _ rfl _ rfl rfl (op_move (.base rfl)) ?_
        refine jg_adr _ rfl _ rfl rfl (op_lss (.base rfl) (.base rfl)) ?_
        refine jg_nil ?_
        refine jn_keep [0, 1, 2, 8, 9, 33] [70] (.cons rfl (.cons rfl (.cons rfl (.cons rfl (.cons rfl (.cons rfl .nil)))))) (.cons rfl .nil) ?_
        refine jn_seq ?_
        refine j_cond rfl (fun h9 => ?_) (fun h9 => ?_)
        · have h9 : i < N := by simpa using h9
          refine j_skip (jn_seq (j_seq (j_block ?_)))
          refine j_region ?_
          refine jg_adr _ rfl _ rfl rfl (op_move (.base rfl)) ?_
          refine jg_adr _ rfl _ rfl rfl (op_move (.base rfl)) ?_
          refine jg_adr _ rfl _ rfl rfl (op_move (.base rfl)) ?_
          refine jg_adr _ rfl _ rfl rfl (op_add (.base rfl) (.base rfl) (w64 (by omega))) ?_
          refine jg_adr _ rfl _ rfl rfl (op_build z44 rfl pl44 (.cons (rt' := (rInt .i64)) rfl ln44_0 (.raw (.base rfl) rfl) (.cons (rt' := (rInt .i64)) rfl ln44_1 (.raw (.base rfl) rfl) .nil))) ?_
          refine jg_adr _ rfl _ rfl rfl (op_bslice (rt := rBucket) Try.underlying28 ty44 z44 rfl (.cons (.tv (.base rfl)) .nil) rfl rfl) ?_
          refine jg_os _ rfl (op_append [0, 1, 2, 9] Try.underlying28 ty44 z44 rfl by44 (.base rfl) rfl (by (try simp); try omega) (.tv (.base rfl)) (by unfold maxLen; (try simp); try omega) (by (try simp); try omega) rfl (.cons rfl (.cons rfl (.cons rfl (.cons rfl .nil)))) rfl) ?_
          refine jg_adr _ rfl _ rfl rfl (op_assign (.base rfl)) ?_
          refine jg_nil ?_
          refine jn_keep [0, 1, 2, 8, 9] [70] (.cons rfl (.cons rfl (.cons rfl (.cons rfl (.cons rfl .nil))))) (.cons rfl .nil) ?_
          refine jn_blk (jn_seq ?_)
          refine j_region ?_
          refine jg_adr _ rfl _ rfl rfl (op_move (.base rfl)) ?_
          refine jg_adr _ rfl _ rfl rfl (op_add (.base rfl) (.base rfl) (w64 (by omega))) ?_
          refine jg_adr _ rfl _ rfl rfl (op_assign (.base rfl)) ?_
          refine jg_nil ?_
          refine jn_keep [0, 1, 2, 8, 9] [70] (.cons rfl (.cons rfl (.cons rfl (.cons rfl (.cons rfl .nil))))) (.cons rfl .nil) ?_
          exact jn_loop (fun a w hi => ⟨i + 1, (by omega), (by omega), Sub.inv ⟨(by repeat (first | exact SubS_nil | refine SubS_cons rfl (by first | rfl | exact congrArg (SV.own 70 rBucket.n 0) (by rw [initG_len, initG_len]; simp)) ?_)), (by repeat (first | exact SubH_nil | refine SubH_cons rfl (by first | rfl | exact congrArg (HB.mk rBucket) (by rw [initG_succ]; try (simp only [List.drop_zero, List.take_of_length_le (Nat.le_refl _)]); first | done | rfl | (simp [mkG]; done))) ?_))⟩ hi⟩)
        · have h9 : ¬ i < N := by simpa using h9
          obtain rfl : i = N := by omega
          rw [initG_len]
          refine j_exit (je_seq (je_loop (je_blk (jn_seq (j_seq (j_seq ?_))))))
          refine j_region ?_
          refine jg_adr _ rfl _ rfl rfl (op_assign (.base rfl)) ?_
          refine jg_nil ?_
          refine jn_keep [0, 1, 2, 8, 10] [70] (.cons rfl (.cons rfl (.cons rfl (.cons rfl (.cons rfl .nil))))) (.cons rfl .nil) ?_
          refine jn_seq (j_block ?_)
          refine j_loopp (ι := Nat × List TBucket) (fun (k, bs) => ⟨[(0, .tv (rSlice (rInt .i64)) l), (1, .tv (rSlice (rInt .i64)) gs), (2, .raw (.int .i64 ((i : Int)))), (8, .own 70 rBucket.n 0 i), (10, .raw (.int .i64 ((k : Nat))))], [(70, ⟨rBucket, bs⟩)]⟩) (fun (k, bs) => (k ≤ gs.length ∧ bs.length = i) ∧ BdB k bs ∧ grpF i bs ((gs.zip l).drop k) = grpF i (initG i) (gs.zip l)) (fun (k, bs) => l.length - k) (0, initG i) (⟨⟨Nat.zero_le _, initG_len i⟩, initG_bd i, rfl⟩) (fun a w hi => (Sub.inv ⟨(by repeat (first | exact SubS_nil | refine SubS_cons rfl (by first | rfl | (simp; done) | assumption) ?_)), (by repeat (first | exact SubH_nil | refine SubH_cons rfl (by first | rfl | (simp; done) | assumption) ?_))⟩ hi)) ?_
          rintro ⟨k, bs⟩ ⟨⟨p1, p2⟩, p3, p4⟩
          refine j_seq (j_seq ?_)
          refine j_region ?_
          refine jg_adr _ rfl _ rfl rfl (op_move (.base rfl)) ?_
          refine jg_adr _ rfl _ rfl rfl (op_move (.base rfl)) ?_
          refine jg_adr _ rfl _ rfl rfl (op_len Try.underlying22 (.base rfl)) ?_
          refine jg_adr _ rfl _ rfl rfl (op_lss (.base rfl) (.base rfl)) ?_
          refine jg_nil ?_
          refine jn_keep [0, 1, 2, 8, 10, 46] [70] (.cons rfl (.cons rfl (.cons rfl (.cons rfl (.cons rfl (.cons rfl .nil)))))) (.cons rfl .nil) ?_
          refine jn_seq ?_
          refine j_cond rfl (fun h13 => ?_) (fun h13 => ?_)
          · simp at h13
            have hkg : k < gs.length := by omega
            have hv := hok _ (List.getElem_mem h13)
            refine j_skip (jn_seq (j_seq (j_block (j_seq ?_))))
            refine j_region ?_
            refine jg_adr _ rfl _ rfl rfl (op_move (.base rfl)) ?_
            refine jg_adr _ rfl _ rfl rfl (op_move (.base rfl)) ?_
            refine jg_adr _ rfl _ rfl rfl (op_index Try.underlying22 ty3 (.base rfl) (.base rfl) rfl (List.getElem?_eq_getElem (by first | omega | (simp; done) | (simp; omega) | (simp at hg; omega)))) ?_
            refine jg_adr _ rfl _ rfl rfl (op_load ty3 (.base rfl)) ?_
            refine jg_adr _ rfl _ rfl rfl (op_assign (.base rfl)) ?_
            refine jg_nil ?_
            refine jn_keep [0, 1, 2, 8, 10, 11] [70] (.cons rfl (.cons rfl (.cons rfl (.cons rfl (.cons rfl (.cons rfl .nil)))))) (.cons rfl .nil) ?_
            refine jn_seq (j_seq (j_seq ?_))
            refine j_region ?_
            refine jg_adr _ rfl _ rfl rfl (op_move (.base rfl)) ?_
            refine jg_adr _ rfl _ rfl rfl (op_lss (.base rfl) (.base rfl)) ?_
            refine jg_adr _ rfl _ rfl rfl (op_move (.base rfl)) ?_
            refine jg_gd _ _ _ _ _ _ rfl rfl rfl rfl rfl (fun hg => op_move (.base rfl)) ?_
            refine jg_gd _ _ _ _ _ _ rfl rfl rfl rfl rfl (fun hg => op_move (.base rfl)) ?_
            refine jg_gd _ _ _ _ _ _ rfl rfl rfl rfl rfl (fun hg => op_geq (.gd rfl hg) (.gd rfl hg)) ?_
            refine jg_adr _ rfl _ rfl rfl (op_pick_or (.base rfl) (.base rfl) rfl (by intro h; first | (rw [h]; rfl) | (rw [hg, h]; rfl) | (rw [h, hg]; rfl) | simp_all)) ?_
            refine jg_nil ?_
            refine jn_keep [0, 1, 2, 8, 10, 11, 59] [70] (.cons rfl (.cons rfl (.cons rfl (.cons rfl (.cons rfl (.cons rfl (.cons rfl .nil))))))) (.cons rfl .nil) ?_
            refine jn_seq ?_
            refine j_cond rfl (fun h16 => ?_) (fun h16 => ?_)
            · have k17 : gs[k] < 0 ∨ (i : Int) ≤ gs[k] := by simp at h16; omega
              refine j_seq ?_
              refine j_region ?_
              refine jg_adr _ rfl _ rfl rfl (op_assign (.base rfl)) ?_
              refine jg_adr _ rfl _ rfl rfl (op_assign (.base rfl)) ?_
              refine jg_nil ?_
              refine jn_keep [6, 7] [] (.cons rfl (.cons rfl .nil)) .nil ?_
              refine jn_seq (j_ret (jr_seq (jr_blk (jr_seq (jr_loop (jr_blk (jr_seq ?_)))))))
              exact jr_fin2 Try.results18 (res_nil rfl) (res_tmp rfl) ⟨rfl, rfl⟩ (svBI_eq (by unfold grpR; rw [if_neg (by omega), if_neg k3, if_neg (by rw [k5]; simp; omega)]; simp only [Int.toNat_natCast]; rw [← p4, zip_drop hkg h13, grpF, if_pos (by simp only; omega)]))
            · have k17 : 0 ≤ gs[k] ∧ gs[k] < i := by simp at h16; omega
              have hgt : gs[k].toNat < bs.length := by omega
              have hbg := bdB_get p3 hgt
              have hbb : bs[0 + gs[k].toNat]? = some (bs.getD gs[k].toNat b0) := by rw [Nat.zero_add]; exact getB hgt
              have hgc := (Int.toNat_of_nonneg k17.1).symm
              refine j_skip (jn_seq (j_seq ?_))
              refine j_region ?_
              refine jg_adr _ rfl _ rfl rfl (op_move (.base rfl)) ?_
              refine jg_adr _ rfl _ rfl rfl (op_move (.base rfl)) ?_
              refine jg_adr _ rfl _ rfl rfl (op_move (.base rfl)) ?_
              refine jg_adr _ rfl _ rfl rfl (op_move (.base rfl)) ?_
              refine jg_adr _ rfl _ rfl rfl (op_oindex Try.underlying28 ty44 (.base rfl) (.base rfl) hgc (by first | omega | (simp; done) | (simp; omega))) ?_
              refine jg_adr _ rfl _ rfl rfl (op_ofield fld44_2 (.base rfl)) ?_
              refine jg_adr _ rfl _ rfl rfl (op_oload ty3 (.base rfl) rfl hbb ln44_2) ?_
              refine jg_adr _ rfl _ rfl rfl (op_add (.base rfl) (.base rfl) (w64 (by omega))) ?_
              refine jg_adr _ rfl _ rfl rfl (op_oindex Try.underlying28 ty44 (.base rfl) (.base rfl) hgc (by first | omega | (simp; done) | (simp; omega))) ?_
              refine jg_adr _ rfl _ rfl rfl (op_ofield fld44_2 (.base rfl)) ?_
              refine jg_os _ rfl (op_ostore ty3 (.base rfl) rfl hbb ln44_2 (.raw (.base rfl) rfl)) ?_
              refine jg_nil ?_
              refine jn_keep [0, 1, 2, 8, 10, 11] [70] (.cons rfl (.cons rfl (.cons rfl (.cons rfl (.cons rfl (.cons rfl .nil)))))) (.cons rfl .nil) ?_
              refine jn_seq ?_
              refine j_drawE mo (by kernel_rfl) (
                AE.cons _ _ _ rfl (gh_ga [70] (ga_adr rfl rfl rfl (op_move (.base rfl))) (by kernel_rfl)) (
                AE.cons _ _ _ rfl (gh_ga [] (ga_adr rfl rfl rfl (op_move (.base rfl))) (by kernel_rfl)) (
                AE.cons _ _ _ rfl (gh_ga [70] (ga_adr rfl rfl rfl (op_move (.base rfl))) (by kernel_rfl)) (
                AE.cons _ _ _ rfl (gh_ga [] (ga_adr rfl rfl rfl (op_move (.base rfl))) (by kernel_rfl)) (
                AE.cons _ _ _ rfl (gh_oindex rfl Try.underlying28 ty44 (.base rfl) (.base rfl) hgc (by first | omega | (simp; done) | (simp; omega))) (
                AE.cons _ _ _ rfl (gh_ga [70] (ga_adr rfl rfl rfl (op_ofield fld44_3 (.base rfl))) (by kernel_rfl)) (
                AE.cons _ _ _ rfl (gh_ga [70] (ga_adr rfl rfl rfl (op_oload ty3 (.base rfl) rfl (List.getElem?_set_self (by omega)) ln44_3)) (by kernel_rfl)) (
                AE.cons _ _ _ rfl (gh_ga [] (ga_adr rfl rfl rfl (op_move (.base rfl))) (by kernel_rfl)) (
                AE.cons _ _ _ rfl (gh_ga [] (ga_adr rfl rfl rfl (op_move (.base rfl))) (by kernel_rfl)) (
                AE.cons _ _ _ rfl (gh_ga [] (ga_adr rfl rfl rfl (op_index Try.underlying22 ty3 (.base rfl) (.base rfl) rfl (List.getElem?_eq_getElem (by first | omega | (simp; done) | (simp; omega) | (simp at hg; omega))))) (by kernel_rfl)) (
                AE.cons _ _ _ rfl (gh_ga [] (ga_adr rfl rfl rfl (op_load ty3 (.base rfl))) (by kernel_rfl)) (
                AE.cons _ _ _ rfl (gh_ga [] (ga_adr rfl rfl rfl (op_add (.base rfl) (.base rfl) (w64c (show _ = (bs.getD gs[k].toNat b0).2.2.2 + l[k] from rfl) (by omega)))) (by kernel_rfl)) (
                AE.cons _ _ _ rfl (gh_oindex rfl Try.underlying28 ty44 (.base rfl) (.base rfl) hgc (by first | omega | (simp; done) | (simp; omega))) (
                AE.cons _ _ _ rfl (gh_ga [70] (ga_adr rfl rfl rfl (op_ofield fld44_3 (.base rfl))) (by kernel_rfl)) (
                AE.cons _ _ _ rfl (gh_store ty3 (.base rfl) rfl (List.getElem?_set_self (by omega)) ln44_3 (.raw (.base rfl) rfl)) (
                AE.nil)))))))))))))))) (by kernel_rfl) ?_
              refine jn_keep [0, 1, 2, 8, 10] [70] (.cons rfl (.cons rfl (.cons rfl (.cons rfl (.cons rfl .nil))))) (.cons rfl .nil) ?_
              refine jn_blk (jn_seq ?_)
              refine j_region ?_
              refine jg_adr _ rfl _ rfl rfl (op_move (.base rfl)) ?_
              refine jg_adr _ rfl _ rfl rfl (op_add (.base rfl) (.base rfl) (w64 (by omega))) ?_
              refine jg_adr _ rfl _ rfl rfl (op_assign (.base rfl)) ?_
              refine jg_nil ?_
              refine jn_keep [0, 1, 2, 8, 10] [70] (.cons rfl (.cons rfl (.cons rfl (.cons rfl (.cons rfl .nil))))) (.cons rfl .nil) ?_
              exact jn_loop (fun a w hi => ⟨(k + 1, putB bs gs[k].toNat l[k]), (by show l.length - (k + 1) < l.length - k; omega), ⟨⟨by omega, by rw [putB_len]; exact p2⟩, bdB_put p3 (by omega) hv, by rw [← p4, zip_drop hkg h13, grpF, if_neg (by simp only; omega)]⟩, Sub.inv ⟨(by repeat (first | exact SubS_nil | refine SubS_cons rfl (by first | rfl | (simp; done) | assumption) ?_)), (by repeat (first | exact SubH_nil | refine SubH_cons rfl (by first | rfl | exact congrArg (HB.mk rBucket) (by rw [Nat.zero_add, List.set_set]; rfl)) ?_))⟩ hi⟩)
          · simp at h13
            refine j_exit (je_seq (je_loop (je_blk (jn_seq (j_seq ?_)))))
            refine j_region ?_
            refine jg_adr _ rfl _ rfl rfl (op_move (.base rfl)) ?_
            refine jg_adr _ rfl _ rfl rfl (op_assign (.base rfl)) ?_
            refine jg_adr _ rfl _ rfl rfl (op_assign (.base rfl)) ?_
            refine jg_nil ?_
            refine jn_keep [6, 7] [70] (.cons rfl (.cons rfl .nil)) (.cons rfl .nil) ?_
            refine jn_seq (j_ret ?_)
            refine jr_seal (rt := rBucket) 70 6 (dropH 70 _) rfl rfl (by first | omega | (simp; done) | (simp; omega)) (dropH_sub 70 _) (dropH_no 70 _) ?_
            exact jr_fin2 Try.results18 (res_tmp rfl) (res_tmp rfl) ⟨rfl, rfl⟩ (svBI_eq (by unfold grpR; rw [if_neg (by omega), if_neg k3, if_neg (by rw [k5]; simp; omega)]; simp only [Int.toNat_natCast]; rw [← p4, zip_end (by omega), grpF]; simp only [List.drop_zero]; rw [List.take_of_length_le (by omega)]))

end Go.Proofs.Ytfmoolclokffjaa
