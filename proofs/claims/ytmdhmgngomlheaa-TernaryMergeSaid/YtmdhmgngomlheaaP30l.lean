import Derived.Test.YtmdhmgngomlheaaP30k
namespace Go.Proofs.Ytmdhmgngomlheaa
open Go.Eng
set_option maxRecDepth 100000
set_option maxHeartbeats 4000000
set_option linter.unusedVariables false
set_option linter.unusedSimpArgs false

theorem okI {x : Int} (h0 : 0 ≤ x) (h1 : x < 9223372036854775808) : mK41.ok x := by
  show (Lit.int .i64 x).wf = true
  simp [Lit.wf, IntKind.min, IntKind.max, IntKind.signed, IntKind.bits]; omega
theorem take_end {l : List Int} {k : Nat} (h : l.length ≤ k) : l.take k = l := List.take_of_length_le h
theorem minimize_ok (nums : List Int) (n : Int) (c N : Nat) (hc : clampF n = c) (hN : 2 ^ c = N) (hl : nums.length ≤ 300) : Ct Try.prog 10 [.tv (rSlice (rInt .i64)) nums, .raw (.int .i64 n)] (.tv (rSlice rPattern) ((minF c (inS N nums)).map pc)) := by
  refine ct_intro Try.func10 rfl rfl Try.ntmps10 rfl rfl ?_
  intro w0 ok0
  have hc8 : c ≤ 8 := hc ▸ clampF_le n
  have hN8 : N ≤ 256 := by rw [← hN]; exact Nat.pow_le_pow_right (n := 2) (by omega) hc8
  have hN1 : 1 ≤ N := by rw [← hN]; exact Nat.one_le_two_pow
  refine j_seq ?_
  refine j_region ?_
  refine jg_adr _ rfl _ rfl rfl (op_assign (.base rfl)) ?_
  refine jg_nil ?_
  refine jn_keep [0, 1] [] (.cons rfl (.cons rfl .nil)) .nil ?_
  refine jn_seq (j_seq ?_)
  refine j_region ?_
  refine jg_adr _ rfl _ rfl rfl (op_move (.base rfl)) ?_
  refine jg_adr _ rfl _ rfl rfl (op_call (clamp_ok _) (.cons (.base rfl) .nil) rfl rfl) ?_
  refine jg_adr _ rfl _ rfl rfl (op_assign (.base rfl)) ?_
  refine jg_nil ?_
  rw [hc]
  refine jn_keep [0, 1] [] (.cons rfl (.cons rfl .nil)) .nil ?_
  refine jn_seq (j_seq ?_)
  refine j_region ?_
  refine jg_adr _ rfl _ rfl rfl (op_move (.base rfl)) ?_
  refine jg_adr _ rfl _ rfl rfl (op_shl (.base rfl) (.base rfl) (by omega) ((shl1n (by omega)).trans (by rw [hN]))) ?_
  refine jg_adr _ rfl _ rfl rfl (op_assign (.base rfl)) ?_
  refine jg_nil ?_
  refine jn_keep [0, 1, 5] [] (.cons rfl (.cons rfl (.cons rfl .nil))) .nil ?_
  refine jn_seq (j_seq ?_)
  refine j_region ?_
  refine jg_os _ rfl (op_makeMapK mK41 mE rfl rfl) ?_
  refine jg_adr _ rfl _ rfl rfl (op_assign (.base rfl)) ?_
  refine jg_nil ?_
  refine jn_keep [0, 1, 5, 6] [19] (.cons rfl (.cons rfl (.cons rfl (.cons rfl .nil)))) (.cons rfl .nil) ?_
  refine jn_seq (j_seq ?_)
  refine j_region ?_
  refine jg_os _ rfl (op_makeMapK mK42 mE rfl rfl) ?_
  refine jg_adr _ rfl _ rfl rfl (op_assign (.base rfl)) ?_
  refine jg_nil ?_
  refine jn_keep [0, 1, 5, 6, 7] [19, 20] (.cons rfl (.cons rfl (.cons rfl (.cons rfl (.cons rfl .nil))))) (.cons rfl (.cons rfl .nil)) ?_
  refine jn_seq (j_seq (j_seq ?_))
  refine j_region ?_
  refine jg_adr _ rfl _ rfl rfl (op_move (.base rfl)) ?_
  refine jg_adr _ rfl _ rfl rfl (op_len Try.underlying22 (.base rfl)) ?_
  refine jg_adr _ rfl _ rfl rfl (op_move (.base rfl)) ?_
  refine jg_nil ?_
  refine jn_keep [1, 5, 6, 7, 21, 22, 23] [19, 20] (.cons rfl (.cons rfl (.cons rfl (.cons rfl (.cons rfl (.cons rfl (.cons rfl .nil))))))) (.cons rfl (.cons rfl .nil)) ?_
  refine jn_seq (j_block ?_)
  refine j_loopp (ι := Nat × Nat × Nat) (fun (k, cM, cP) => ⟨[(1, .raw (.int .i64 ((c : Nat)))), (5, .raw (.int .i64 ((N : Nat)))), (6, .mref 19), (7, .mref 20), (21, .tv (rSlice (rInt .i64)) nums), (22, .raw (.int .i64 ((nums.length : Int)))), (23, .raw (.int .i64 ((k : Nat))))], [(19, ⟨rMapK mK41 mE, [(none, cM, fM (inS N (nums.take k)))]⟩), (20, ⟨rMapK mK42 mE, [(none, cP, fS (start c (inS N (nums.take k))))]⟩)]⟩) (fun (k, cM, cP) => k ≤ nums.length ∧ cM ≤ k ∧ cP ≤ k) (fun (k, cM, cP) => nums.length - k) (0, 0, 0) (⟨Nat.zero_le _, Nat.le_refl _, Nat.le_refl _⟩) (fun a w hi => Sub.inv ⟨(by repeat (first | exact SubS_nil | refine SubS_cons rfl (by first | rfl | (simp; done) | assumption) ?_)), (by repeat (first | exact SubH_nil | refine SubH_cons rfl (by first | rfl | (simp; done) | assumption | (refine congrArg (fun f => HB.mk (rMapK mK41 mE) [(none, 0, f)]) ?_; funext x; unfold fM inS; simp) | (refine congrArg (fun f => HB.mk (rMapK mK42 mE) [(none, 0, f)]) ?_; funext x; unfold fS start inS; simp)) ?_))⟩ hi) ?_
  rintro ⟨k, cM, cP⟩ ⟨hk, hcM, hcP⟩
  refine j_seq ?_
  refine j_region ?_
  refine jg_adr _ rfl _ rfl rfl (op_lss (.base rfl) (.base rfl)) ?_
  refine jg_nil ?_
  refine jn_keep [1, 5, 6, 7, 21, 22, 23, 24] [19, 20] (.cons rfl (.cons rfl (.cons rfl (.cons rfl (.cons rfl (.cons rfl (.cons rfl (.cons rfl .nil)))))))) (.cons rfl (.cons rfl .nil)) ?_
  refine jn_seq (j_seq ?_)
  refine j_cond rfl (fun h6 => ?_) (fun h6 => ?_)
  · have h6 : k < nums.length := by simpa using h6
    have hsn : nums.take (k + 1) = nums.take k ++ [nums[k]] := List.take_succ_eq_append_getElem h6
    refine j_skip (jn_seq (j_seq (j_block (j_seq ?_))))
    refine j_region ?_
    refine jg_adr _ rfl _ rfl rfl (op_index Try.underlying22 ty3 (.base rfl) (.base rfl) rfl (List.getElem?_eq_getElem (by first | omega | (simp; done) | (simp; omega) | (simp at hg; omega)))) ?_
    refine jg_adr _ rfl _ rfl rfl (op_load ty3 (.base rfl)) ?_
    refine jg_adr _ rfl _ rfl rfl (op_assign (.base rfl)) ?_
    refine jg_nil ?_
    refine jn_keep [1, 5, 6, 7, 9, 21, 22, 23] [19, 20] (.cons rfl (.cons rfl (.cons rfl (.cons rfl (.cons rfl (.cons rfl (.cons rfl (.cons rfl .nil)))))))) (.cons rfl (.cons rfl .nil)) ?_
    refine jn_seq (j_seq ?_)
    refine j_region ?_
    refine jg_adr _ rfl _ rfl rfl (op_move (.base rfl)) ?_
    refine jg_adr _ rfl _ rfl rfl (op_geq (.base rfl) (.base rfl)) ?_
    refine jg_adr _ rfl _ rfl rfl (op_move (.base rfl)) ?_
    refine jg_gd _ _ _ _ _ _ rfl rfl rfl rfl rfl (fun hg => op_move (.base rfl)) ?_
    refine jg_gd _ _ _ _ _ _ rfl rfl rfl rfl rfl (fun hg => op_move (.base rfl)) ?_
    refine jg_gd _ _ _ _ _ _ rfl rfl rfl rfl rfl (fun hg => op_lss (.gd rfl hg) (.gd rfl hg)) ?_
    refine jg_adr _ rfl _ rfl rfl (op_pick_and (.base rfl) (.base rfl) rfl (by intro h; first | (rw [h]; rfl) | (rw [hg, h]; rfl) | (rw [h, hg]; rfl) | simp_all)) ?_
    refine jg_nil ?_
    refine jn_keep [1, 5, 6, 7, 9, 21, 22, 23, 33] [19, 20] (.cons rfl (.cons rfl (.cons rfl (.cons rfl (.cons rfl (.cons rfl (.cons rfl (.cons rfl (.cons rfl .nil))))))))) (.cons rfl (.cons rfl .nil)) ?_
    refine jn_seq ?_
    refine j_cond rfl (fun h8 => ?_) (fun h8 => ?_)
    · have h8 : 0 ≤ nums[k] ∧ nums[k] < (N : Int) := by simpa using h8
      have hpx : (((mK42.lit ((N : Int) - 1, nums[k])))) = mK42.lit ((N : Int) - 1, nums[k]) := rfl
      have hMA : updK (fM (inS N (nums.take k))) nums[k] true = fM (inS N (nums.take (k + 1))) := by rw [fM_upd _ _ h8.1, hsn]; exact fM_congr fun y => (inS_in h8.1 h8.2 y).symm
      have hpq : (((N : Int) - 1, nums[k]) : TPattern) = pc (N - 1, nums[k].toNat) := Prod.ext (by show (N : Int) - 1 = ((N - 1 : Nat) : Int); omega) (by show nums[k] = ((nums[k].toNat : Nat) : Int); omega)
      have hPA : updK (fS (start c (inS N (nums.take k)))) ((N : Int) - 1, nums[k]) true = fS (start c (inS N (nums.take (k + 1)))) := by
        rw [hpq, fS_upd, hsn]
        refine fS_congr fun y => ?_
        rw [show inS N (nums.take k ++ [nums[k]]) = fun y => inS N (nums.take k) y || decide (y = nums[k].toNat) from funext fun y => inS_in h8.1 h8.2 y, start_in (by rw [hN]; omega), hN]
      refine j_seq ?_
      refine j_region ?_
      refine jg_adr _ rfl _ rfl rfl (op_move (.base rfl)) ?_
      refine jg_adr _ rfl _ rfl rfl (op_move (.base rfl)) ?_
      refine jg_os _ rfl (op_mapUpdateK (K := mK41) (E := mE) (true) Try.underlying41 (.base rfl) rfl (int_val _) (.raw (.base rfl) rfl) (.base rfl) (okI h8.1 (by omega)) trivial (by unfold maxLen; omega)) ?_
      refine jg_nil ?_
      refine jn_keep [1, 5, 6, 7, 9, 21, 22, 23] [19, 20] (.cons rfl (.cons rfl (.cons rfl (.cons rfl (.cons rfl (.cons rfl (.cons rfl (.cons rfl .nil)))))))) (.cons rfl (.cons rfl .nil)) ?_
      refine jn_seq ?_
      refine j_region ?_
      refine jg_adr _ rfl _ rfl rfl (op_move (.base rfl)) ?_
      refine jg_adr _ rfl _ rfl rfl (op_move (.base rfl)) ?_
      refine jg_adr _ rfl _ rfl rfl (op_sub (.base rfl) (.base rfl) (w64 (by omega))) ?_
      refine jg_adr _ rfl _ rfl rfl (op_move (.base rfl)) ?_
      refine jg_adr _ rfl _ rfl rfl (op_build z29 rfl pl29 (.cons (rt' := (rInt .i64)) rfl ln29_0 (.raw (.base rfl) rfl) (.cons (rt' := (rInt .i64)) rfl ln29_1 (.raw (.base rfl) rfl) .nil))) ?_
      refine jg_os _ rfl (op_mapUpdateK (K := mK42) (E := mE) (true) Try.underlying42 (.base rfl) rfl (pat_val _) (.tv (.base rfl)) (.base rfl) (by rw [hpq]; exact okP (by show N - 1 < _; omega) (by show nums[k].toNat < _; omega)) trivial (by unfold maxLen; omega)) ?_
      refine jg_nil ?_
      refine jn_keep [1, 5, 6, 7, 21, 22, 23] [19, 20] (.cons rfl (.cons rfl (.cons rfl (.cons rfl (.cons rfl (.cons rfl (.cons rfl .nil))))))) (.cons rfl (.cons rfl .nil)) ?_
      refine jn_blk (jn_seq ?_)
      refine j_region ?_
      refine jg_adr _ rfl _ rfl rfl (op_add (.base rfl) (.base rfl) (w64 (by omega))) ?_
      refine jg_adr _ rfl _ rfl rfl (op_move (.base rfl)) ?_
      refine jg_nil ?_
      refine jn_keep [1, 5, 6, 7, 21, 22, 23] [19, 20] (.cons rfl (.cons rfl (.cons rfl (.cons rfl (.cons rfl (.cons rfl (.cons rfl .nil))))))) (.cons rfl (.cons rfl .nil)) ?_
      first
      | exact jn_loop (fun a w hi => have _hh := hMA; ⟨(k + 1, cM + 1, cP + 1), (show nums.length - (k + 1) < nums.length - k by omega), ⟨by omega, by omega, by omega⟩, Sub.inv ⟨(by repeat (first | exact SubS_nil | refine SubS_cons rfl (by first | rfl | (simp; done) | assumption) ?_)), (by repeat (first | exact SubH_nil | refine SubH_cons rfl (by first | rfl | (simp; done) | assumption | exact congrArg (fun f => HB.mk (rMapK mK41 mE) [(none, cM + 1, f)]) hMA | exact congrArg (fun f => HB.mk (rMapK mK42 mE) [(none, cP + 1, f)]) hPA) ?_))⟩ hi⟩)
      | exact jn_loop (fun a w hi => ⟨(k + 1, cM, cP), (show nums.length - (k + 1) < nums.length - k by omega), ⟨by omega, by omega, by omega⟩, Sub.inv ⟨(by repeat (first | exact SubS_nil | refine SubS_cons rfl (by first | rfl | (simp; done) | assumption) ?_)), (by repeat (first | exact SubH_nil | refine SubH_cons rfl (by first | rfl | (simp; done) | assumption | (rw [hSB])) ?_))⟩ hi⟩)
    · have h8 : ¬ (0 ≤ nums[k] ∧ nums[k] < (N : Int)) := by simpa using h8
      have hSB : inS N (nums.take (k + 1)) = inS N (nums.take k) := by rw [hsn]; exact funext fun y => inS_out h8 y
      refine j_skip (jn_blk (jn_seq ?_))
      refine j_region ?_
      refine jg_adr _ rfl _ rfl rfl (op_add (.base rfl) (.base rfl) (w64 (by omega))) ?_
      refine jg_adr _ rfl _ rfl rfl (op_move (.base rfl)) ?_
      refine jg_nil ?_
      refine jn_keep [1, 5, 6, 7, 21, 22, 23] [19, 20] (.cons rfl (.cons rfl (.cons rfl (.cons rfl (.cons rfl (.cons rfl (.cons rfl .nil))))))) (.cons rfl (.cons rfl .nil)) ?_
      first
      | exact jn_loop (fun a w hi => have _hh := hMA; ⟨(k + 1, cM + 1, cP + 1), (show nums.length - (k + 1) < nums.length - k by omega), ⟨by omega, by omega, by omega⟩, Sub.inv ⟨(by repeat (first | exact SubS_nil | refine SubS_cons rfl (by first | rfl | (simp; done) | assumption) ?_)), (by repeat (first | exact SubH_nil | refine SubH_cons rfl (by first | rfl | (simp; done) | assumption | exact congrArg (fun f => HB.mk (rMapK mK41 mE) [(none, cM + 1, f)]) hMA | exact congrArg (fun f => HB.mk (rMapK mK42 mE) [(none, cP + 1, f)]) hPA) ?_))⟩ hi⟩)
      | exact jn_loop (fun a w hi => ⟨(k + 1, cM, cP), (show nums.length - (k + 1) < nums.length - k by omega), ⟨by omega, by omega, by omega⟩, Sub.inv ⟨(by repeat (first | exact SubS_nil | refine SubS_cons rfl (by first | rfl | (simp; done) | assumption) ?_)), (by repeat (first | exact SubH_nil | refine SubH_cons rfl (by first | rfl | (simp; done) | assumption | (rw [hSB])) ?_))⟩ hi⟩)
  · have h6 : ¬ k < nums.length := by simpa using h6
    refine j_exit (je_seq (je_loop (je_blk (jn_seq (j_seq ?_)))))
    obtain ⟨S, hS⟩ : ∃ S, inS N nums = S := ⟨_, rfl⟩
    rw [take_end (show nums.length ≤ k by omega), hS]
    rw [show fS (start c S) = fS (upTo c S 0) from fS_congr (start_eq hc8)]
    refine j_region ?_
    refine jg_adr _ rfl _ rfl rfl (op_move (.base rfl)) ?_
    refine jg_adr _ rfl _ rfl rfl (op_move (.base rfl)) ?_
    refine jg_os _ rfl (op_callM (addMerged_ok c hc8 S cP (by omega)) (.base rfl) rfl (.cons (.base rfl) .nil) rfl rfl rfl) ?_
    refine jg_nil ?_
    refine jn_keep [1, 5, 6, 7] [19, 20] (.cons rfl (.cons rfl (.cons rfl (.cons rfl .nil)))) (.cons rfl (.cons rfl .nil)) ?_
    refine jn_seq (j_seq ?_)
    refine j_region ?_
    refine jg_adr _ rfl _ rfl rfl (op_assign (.base rfl)) ?_
    refine jg_nil ?_
    refine jn_keep [1, 5, 6, 7, 10] [19, 20] (.cons rfl (.cons rfl (.cons rfl (.cons rfl (.cons rfl .nil))))) (.cons rfl (.cons rfl .nil)) ?_
    refine jn_seq (j_seq (j_seq ?_))
    refine j_region ?_
    refine jg_adr _ rfl _ rfl rfl (op_move (.base rfl)) ?_
    refine jg_adr _ rfl _ rfl rfl (op_move (.base rfl)) ?_
    refine jg_os _ rfl (op_callM (primes_ok c hc8 S 116226146700 (Nat.le_refl _)) (.base rfl) rfl (.cons (.base rfl) .nil) rfl rfl rfl) ?_
    refine jg_adr _ rfl _ rfl rfl (op_len Try.underlying25 (.base rfl)) ?_
    refine jg_adr _ rfl _ rfl rfl (op_move (.base rfl)) ?_
    refine jg_nil ?_
    refine jn_keep [5, 6, 10, 47, 48, 49] [19] (.cons rfl (.cons rfl (.cons rfl (.cons rfl (.cons rfl (.cons rfl .nil)))))) (.cons rfl .nil) ?_
    refine jn_seq (j_block ?_)
    have hpl := prmL_len hc8 S
    refine j_vac 180 10 rPattern rfl rfl rfl ?_
    refine j_loopp (ι := Nat × Option Obj × Nat) (fun (i, o, cM2) => ⟨[(5, .raw (.int .i64 ((N : Nat)))), (6, .mref 19), (10, .own 180 rPattern.n 0 ((((prmL c S).take i).foldl (pstep N) ([], S)).1.map pc).length), (47, .tv (rSlice rPattern) ((prmL c S).map pc)), (48, .raw (.int .i64 ((((prmL c S).map pc).length : Int)))), (49, .raw (.int .i64 ((i : Nat))))], [(19, ⟨rMapK mK41 mE, [(o, cM2, fM ((((prmL c S).take i).foldl (pstep N) ([], S)).2))]⟩), (180, ⟨rPattern, (((prmL c S).take i).foldl (pstep N) ([], S)).1.map pc⟩)]⟩) (fun (i, o, cM2) => i ≤ (prmL c S).length) (fun (i, o, cM2) => (prmL c S).length - i) (0, none, cM) (Nat.zero_le _) (fun a w hi => (Sub.inv ⟨(by repeat (first | exact SubS_nil | refine SubS_cons rfl (by first | rfl | (simp; done) | assumption) ?_)), (by repeat (first | exact SubH_nil | refine SubH_cons rfl (by first | rfl | (simp; done) | assumption) ?_))⟩ hi)) ?_
    rintro ⟨i, o, cM2⟩ hi1
    have hgl := gr_len N ((prmL c S).take i) ([], S)
    rw [List.length_take] at hgl
    simp only [List.length_nil] at hgl
    refine j_seq ?_
    refine j_region ?_
    refine jg_adr _ rfl _ rfl rfl (op_lss (.base rfl) (.base rfl)) ?_
    refine jg_nil ?_
    refine jn_keep [5, 6, 10, 47, 48, 49, 50] [19, 180] (.cons rfl (.cons rfl (.cons rfl (.cons rfl (.cons rfl (.cons rfl (.cons rfl .nil))))))) (.cons rfl (.cons rfl .nil)) ?_
    refine jn_seq (j_seq ?_)
    refine j_cond rfl (fun h15 => ?_) (fun h15 => ?_)
    · have h15 : i < (prmL c S).length := by simpa using h15
      obtain ⟨q, hq⟩ : ∃ q, (prmL c S)[i] = q := ⟨_, rfl⟩
      have hqs := vld_small hc8 (prm_vld ((mem_prmL hc8).1 (hq ▸ List.getElem_mem h15))).2
      have hgs := foldS (f := pstep N) (b := ([], S)) h15
      rw [hq] at hgs
      refine j_skip (jn_seq (j_seq (j_block (j_seq ?_))))
      refine j_region ?_
      refine jg_adr _ rfl _ rfl rfl (op_index Try.underlying25 ty29 (.base rfl) (.base rfl) rfl (List.getElem?_eq_getElem (by first | omega | (simp; done) | (simp; omega) | (simp at hg; omega)))) ?_
      refine jg_adr _ rfl _ rfl rfl (op_load ty29 (.base rfl)) ?_
      refine jg_os _ rfl (op_alloc _ z29 rfl rfl rfl) ?_
      refine jg_os _ rfl (op_ostore ty29 (.base rfl) rfl rfl (Lens.id _) (.tv (.base rfl))) ?_
      refine jg_nil ?_
      rw [List.getElem_map, hq]
      refine jn_keep [5, 6, 10, 12, 47, 48, 49] [12, 19, 180] (.cons rfl (.cons rfl (.cons rfl (.cons rfl (.cons rfl (.cons rfl (.cons rfl .nil))))))) (.cons rfl (.cons rfl (.cons rfl .nil))) ?_
      refine jn_seq (j_seq ?_)
      refine j_region ?_
      refine jg_adr _ rfl _ rfl rfl (op_assign (.base rfl)) ?_
      refine jg_nil ?_
      refine jn_keep [5, 6, 10, 12, 13, 47, 48, 49] [12, 19, 180] (.cons rfl (.cons rfl (.cons rfl (.cons rfl (.cons rfl (.cons rfl (.cons rfl (.cons rfl .nil)))))))) (.cons rfl (.cons rfl (.cons rfl .nil))) ?_
      refine jn_seq (j_seq (j_seq ?_))
      refine j_region ?_
      refine jg_adr _ rfl _ rfl rfl (op_move (.base rfl)) ?_
      refine jg_adr _ rfl _ rfl rfl (op_move (.base rfl)) ?_
      refine jg_nil ?_
      refine jn_keep [5, 6, 10, 12, 13, 47, 48, 49, 53, 54] [12, 19, 180] (.cons rfl (.cons rfl (.cons rfl (.cons rfl (.cons rfl (.cons rfl (.cons rfl (.cons rfl (.cons rfl (.cons rfl .nil)))))))))) (.cons rfl (.cons rfl (.cons rfl .nil))) ?_
      refine jn_seq (j_block ?_)
      refine j_loopp (ι := Nat × Option Obj × Nat) (fun (j, o2, cM3) => ⟨[(5, .raw (.int .i64 ((N : Nat)))), (6, .mref 19), (10, .own 180 rPattern.n 0 ((((prmL c S).take i).foldl (pstep N) ([], S)).1.map pc).length), (12, .optr 12 rPattern.n 0 0), (13, .raw (.bool ((List.range j).any fun x => (((prmL c S).take i).foldl (pstep N) ([], S)).2 x && mt q x))), (47, .tv (rSlice rPattern) ((prmL c S).map pc)), (48, .raw (.int .i64 ((((prmL c S).map pc).length : Int)))), (49, .raw (.int .i64 ((i : Nat)))), (53, .raw (.int .i64 ((N : Nat)))), (54, .raw (.int .i64 ((j : Nat))))], [(12, ⟨rPattern, [pc q]⟩), (19, ⟨rMapK mK41 mE, [(o2, cM3, fM (fun x => (((prmL c S).take i).foldl (pstep N) ([], S)).2 x && !(decide (x < j) && mt q x)))]⟩), (180, ⟨rPattern, (((prmL c S).take i).foldl (pstep N) ([], S)).1.map pc⟩)]⟩) (fun (j, o2, cM3) => j ≤ N) (fun (j, o2, cM3) => N - j) (0, o, cM2) (Nat.zero_le _) (fun a w hi => Sub.inv ⟨(by repeat (first | exact SubS_nil | refine SubS_cons rfl (by first | rfl | (simp; done) | assumption) ?_)), (by repeat (first | exact SubH_nil | refine SubH_cons rfl (by first | rfl | (simp; done) | assumption | (refine congrArg (fun f => HB.mk (rMapK mK41 mE) [(o, cM2, f)]) ?_; refine fM_congr fun x => ?_; simp)) ?_))⟩ hi) ?_
      rintro ⟨j, o2, cM3⟩ hj
      refine j_seq ?_
      refine j_region ?_
      refine jg_adr _ rfl _ rfl rfl (op_lss (.base rfl) (.base rfl)) ?_
      refine jg_nil ?_
      refine jn_keep [5, 6, 10, 12, 13, 47, 48, 49, 53, 54, 55] [12, 19, 180] (.cons rfl (.cons rfl (.cons rfl (.cons rfl (.cons rfl (.cons rfl (.cons rfl (.cons rfl (.cons rfl (.cons rfl (.cons rfl .nil))))))))))) (.cons rfl (.cons rfl (.cons rfl .nil))) ?_
      refine jn_seq (j_seq ?_)
      refine j_cond rfl (fun h19 => ?_) (fun h19 => ?_)
      · have h19 : j < N := by simpa using h19
        refine j_skip (jn_seq (j_seq (j_block (j_seq ?_))))
        refine j_region ?_
        refine jg_adr _ rfl _ rfl rfl (op_move (.base rfl)) ?_
        refine jg_adr _ rfl _ rfl rfl (op_assign (.base rfl)) ?_
        refine jg_nil ?_
        refine jn_keep [5, 6, 10, 12, 13, 14, 47, 48, 49, 53, 54] [12, 19, 180] (.cons rfl (.cons rfl (.cons rfl (.cons rfl (.cons rfl (.cons rfl (.cons rfl (.cons rfl (.cons rfl (.cons rfl (.cons rfl .nil))))))))))) (.cons rfl (.cons rfl (.cons rfl .nil))) ?_
        refine jn_seq (j_seq ?_)
        refine j_region ?_
        refine jg_adr _ rfl _ rfl rfl (op_move (.base rfl)) ?_
        refine jg_adr _ rfl _ rfl rfl (op_move (.base rfl)) ?_
        refine jg_adr _ rfl _ rfl rfl ((show Adr _ _ _ _ (.raw (.bool ((fM (fun x => (((prmL c S).take i).foldl (pstep N) ([], S)).2 x && !(decide (x < j) && mt q x)) (j : Int)).getD false))) from op_lookupK (K := mK41) (E := mE) Try.underlying41 (.base rfl) rfl (int_val _) (.raw (.base rfl) rfl) (okI (by omega) (by omega)))) ?_
        refine jg_adr _ rfl _ rfl rfl (op_move (.base rfl)) ?_
        refine jg_gd _ _ _ _ _ _ rfl rfl rfl rfl rfl (fun hg => op_oload ty29 (.base rfl) rfl rfl (Lens.id _)) ?_
        refine jg_gd _ _ _ _ _ _ rfl rfl rfl rfl rfl (fun hg => op_move (.base rfl)) ?_
        refine jg_gd _ _ _ _ _ _ rfl rfl rfl rfl rfl (fun hg => op_call (matches_ok _ _) (.cons (.gd rfl hg) (.cons (.gd rfl hg) .nil)) rfl rfl) ?_
        refine jg_adr _ rfl _ rfl rfl (op_pick_and (.base rfl) (.base rfl) rfl (by intro h; first | (rw [h]; rfl) | (rw [hg, h]; rfl) | (rw [h, hg]; rfl) | simp_all)) ?_
        refine jg_nil ?_
        refine jn_keep [5, 6, 10, 12, 13, 14, 47, 48, 49, 53, 54, 64] [12, 19, 180] (.cons rfl (.cons rfl (.cons rfl (.cons rfl (.cons rfl (.cons rfl (.cons rfl (.cons rfl (.cons rfl (.cons rfl (.cons rfl (.cons rfl .nil)))))))))))) (.cons rfl (.cons rfl (.cons rfl .nil))) ?_
        refine jn_seq ?_
        refine j_cond rfl (fun h21 => ?_) (fun h21 => ?_)
        · have h21 : ((fM (fun x => (((prmL c S).take i).foldl (pstep N) ([], S)).2 x && !(decide (x < j) && mt q x)) (j : Int)).getD false && matchI (pc q) (j : Int)) = true := h21
          rw [fM_get, matchI_nat hqs.1 (by omega)] at h21
          simp only [Nat.lt_irrefl, decide_false, Bool.false_and, Bool.not_false, Bool.and_true, Bool.and_eq_true] at h21
          have huA : ((List.range (j + 1)).any fun x => (((prmL c S).take i).foldl (pstep N) ([], S)).2 x && mt q x) = true := by rw [any_succ, h21.1, h21.2]; simp
          have hdA : delK (fM (fun x => (((prmL c S).take i).foldl (pstep N) ([], S)).2 x && !(decide (x < j) && mt q x))) (j : Int) = fM (fun x => (((prmL c S).take i).foldl (pstep N) ([], S)).2 x && !(decide (x < (j + 1)) && mt q x)) := by
            rw [fM_del]
            refine fM_congr fun y => ?_
            by_cases e : y = j
            · subst e; simp [h21.2]
            · rw [show decide (y < j + 1) = decide (y < j) from decide_eq_decide.2 (by omega)]; simp [e]
          refine j_seq ?_
          refine j_region ?_
          refine jg_adr _ rfl _ rfl rfl (op_assign (.base rfl)) ?_
          refine jg_nil ?_
          refine jn_keep [5, 6, 10, 12, 13, 14, 47, 48, 49, 53, 54] [12, 19, 180] (.cons rfl (.cons rfl (.cons rfl (.cons rfl (.cons rfl (.cons rfl (.cons rfl (.cons rfl (.cons rfl (.cons rfl (.cons rfl .nil))))))))))) (.cons rfl (.cons rfl (.cons rfl .nil))) ?_
          refine jn_seq ?_
          refine j_region ?_
          refine jg_adr _ rfl _ rfl rfl (op_move (.base rfl)) ?_
          refine jg_adr _ rfl _ rfl rfl (op_move (.base rfl)) ?_
          refine jg_os _ rfl (op_deleteK (K := mK41) (E := mE) Try.underlying41 (.base rfl) rfl (int_val _) (.raw (.base rfl) rfl) (okI (by omega) (by omega))) ?_
          refine jg_nil ?_
          refine jn_keep [5, 6, 10, 12, 13, 47, 48, 49, 53, 54] [12, 19, 180] (.cons rfl (.cons rfl (.cons rfl (.cons rfl (.cons rfl (.cons rfl (.cons rfl (.cons rfl (.cons rfl (.cons rfl .nil)))))))))) (.cons rfl (.cons rfl (.cons rfl .nil))) ?_
          refine jn_blk (jn_seq ?_)
          refine j_region ?_
          refine jg_adr _ rfl _ rfl rfl (op_add (.base rfl) (.base rfl) (w64 (by omega))) ?_
          refine jg_adr _ rfl _ rfl rfl (op_move (.base rfl)) ?_
          refine jg_nil ?_
          refine jn_keep [5, 6, 10, 12, 13, 47, 48, 49, 53, 54] [12, 19, 180] (.cons rfl (.cons rfl (.cons rfl (.cons rfl (.cons rfl (.cons rfl (.cons rfl (.cons rfl (.cons rfl (.cons rfl .nil)))))))))) (.cons rfl (.cons rfl (.cons rfl .nil))) ?_
          first
          | exact jn_loop (fun a w hi => have _hh := huA; ⟨(j + 1, none, cM3), (show N - (j + 1) < N - j by omega), (show j + 1 ≤ N by omega), Sub.inv ⟨(by repeat (first | exact SubS_nil | refine SubS_cons rfl (by first | rfl | (simp; done) | assumption | exact rb huA.symm) ?_)), (by repeat (first | exact SubH_nil | refine SubH_cons rfl (by first | rfl | (simp; done) | assumption | exact congrArg (fun f => HB.mk (rMapK mK41 mE) [(none, cM3, f)]) hdA) ?_))⟩ hi⟩)
          | exact jn_loop (fun a w hi => ⟨(j + 1, o2, cM3), (show N - (j + 1) < N - j by omega), (show j + 1 ≤ N by omega), Sub.inv ⟨(by repeat (first | exact SubS_nil | refine SubS_cons rfl (by first | rfl | (simp; done) | assumption | exact rb huB.symm) ?_)), (by repeat (first | exact SubH_nil | refine SubH_cons rfl (by first | rfl | (simp; done) | assumption | exact congrArg (fun f => HB.mk (rMapK mK41 mE) [(o2, cM3, f)]) hdB) ?_))⟩ hi⟩)
        · have h21 : ((fM (fun x => (((prmL c S).take i).foldl (pstep N) ([], S)).2 x && !(decide (x < j) && mt q x)) (j : Int)).getD false && matchI (pc q) (j : Int)) = false := h21
          rw [fM_get, matchI_nat hqs.1 (by omega)] at h21
          simp only [Nat.lt_irrefl, decide_false, Bool.false_and, Bool.not_false, Bool.and_true] at h21
          have huB : ((List.range (j + 1)).any fun x => (((prmL c S).take i).foldl (pstep N) ([], S)).2 x && mt q x) = ((List.range j).any fun x => (((prmL c S).take i).foldl (pstep N) ([], S)).2 x && mt q x) := by rw [any_succ, h21]; simp
          have hdB : fM (fun x => (((prmL c S).take i).foldl (pstep N) ([], S)).2 x && !(decide (x < j) && mt q x)) = fM (fun x => (((prmL c S).take i).foldl (pstep N) ([], S)).2 x && !(decide (x < (j + 1)) && mt q x)) := by
            refine fM_congr fun y => ?_
            by_cases e : y = j
            · subst e; simp only [Nat.lt_irrefl, decide_false, Bool.false_and, Bool.not_false, Bool.and_true, Nat.lt_add_one, decide_true, Bool.true_and]; cases h1 : (((prmL c S).take i).foldl (pstep N) ([], S)).2 y <;> cases h2 : mt q y <;> simp_all
            · rw [show decide (y < j + 1) = decide (y < j) from decide_eq_decide.2 (by omega)]
          refine j_skip (jn_blk (jn_seq ?_))
          refine j_region ?_
          refine jg_adr _ rfl _ rfl rfl (op_add (.base rfl) (.base rfl) (w64 (by omega))) ?_
          refine jg_adr _ rfl _ rfl rfl (op_move (.base rfl)) ?_
          refine jg_nil ?_
          refine jn_keep [5, 6, 10, 12, 13, 47, 48, 49, 53, 54] [12, 19, 180] (.cons rfl (.cons rfl (.cons rfl (.cons rfl (.cons rfl (.cons rfl (.cons rfl (.cons rfl (.cons rfl (.cons rfl .nil)))))))))) (.cons rfl (.cons rfl (.cons rfl .nil))) ?_
          first
          | exact jn_loop (fun a w hi => have _hh := huA; ⟨(j + 1, none, cM3), (show N - (j + 1) < N - j by omega), (show j + 1 ≤ N by omega), Sub.inv ⟨(by repeat (first | exact SubS_nil | refine SubS_cons rfl (by first | rfl | (simp; done) | assumption | exact rb huA.symm) ?_)), (by repeat (first | exact SubH_nil | refine SubH_cons rfl (by first | rfl | (simp; done) | assumption | exact congrArg (fun f => HB.mk (rMapK mK41 mE) [(none, cM3, f)]) hdA) ?_))⟩ hi⟩)
          | exact jn_loop (fun a w hi => ⟨(j + 1, o2, cM3), (show N - (j + 1) < N - j by omega), (show j + 1 ≤ N by omega), Sub.inv ⟨(by repeat (first | exact SubS_nil | refine SubS_cons rfl (by first | rfl | (simp; done) | assumption | exact rb huB.symm) ?_)), (by repeat (first | exact SubH_nil | refine SubH_cons rfl (by first | rfl | (simp; done) | assumption | exact congrArg (fun f => HB.mk (rMapK mK41 mE) [(o2, cM3, f)]) hdB) ?_))⟩ hi⟩)
      · have h19 : ¬ j < N := by simpa using h19
        obtain rfl : N = j := by omega
        refine j_exit (je_seq (je_loop (je_blk (jn_seq (j_seq ?_)))))
        refine j_region ?_
        refine jg_adr _ rfl _ rfl rfl (op_move (.base rfl)) ?_
        refine jg_nil ?_
        refine jn_keep [5, 6, 10, 12, 47, 48, 49, 68] [12, 19, 180] (.cons rfl (.cons rfl (.cons rfl (.cons rfl (.cons rfl (.cons rfl (.cons rfl (.cons rfl .nil)))))))) (.cons rfl (.cons rfl (.cons rfl .nil))) ?_
        refine jn_seq ?_
        refine j_cond rfl (fun h25 => ?_) (fun h25 => ?_)
        · have hg1 : (((prmL c S).take (i + 1)).foldl (pstep N) ([], S)).1 = (((prmL c S).take i).foldl (pstep N) ([], S)).1 ++ [q] := by rw [hgs]; simp only [pstep]; rw [if_pos h25]
          have hg2 : (((prmL c S).take (i + 1)).foldl (pstep N) ([], S)).2 = (fun x => (((prmL c S).take i).foldl (pstep N) ([], S)).2 x && !(decide (x < N) && mt q x)) := by rw [hgs]; rfl
          refine j_region ?_
          refine jg_adr _ rfl _ rfl rfl (op_move (.base rfl)) ?_
          refine jg_adr _ rfl _ rfl rfl (op_oload ty29 (.base rfl) rfl rfl (Lens.id _)) ?_
          refine jg_adr _ rfl _ rfl rfl (op_bslice (rt := rPattern) Try.underlying25 ty29 z29 rfl (.cons (.tv (.base rfl)) .nil) rfl rfl) ?_
          refine jg_os _ rfl (op_append [5, 6, 47, 48, 49] Try.underlying25 ty29 z29 rfl by29 (.base rfl) rfl (by (try simp); try omega) (.tv (.base rfl)) (by unfold maxLen; (try simp); try omega) (by (try simp); try omega) rfl (.cons rfl (.cons rfl (.cons rfl (.cons rfl (.cons rfl .nil))))) rfl) ?_
          refine jg_adr _ rfl _ rfl rfl (op_assign (.base rfl)) ?_
          refine jg_nil ?_
          refine jn_keep [5, 6, 10, 47, 48, 49] [19, 180] (.cons rfl (.cons rfl (.cons rfl (.cons rfl (.cons rfl (.cons rfl .nil)))))) (.cons rfl (.cons rfl .nil)) ?_
          refine jn_blk (jn_seq ?_)
          refine j_region ?_
          refine jg_adr _ rfl _ rfl rfl (op_add (.base rfl) (.base rfl) (w64 (by omega))) ?_
          refine jg_adr _ rfl _ rfl rfl (op_move (.base rfl)) ?_
          refine jg_nil ?_
          refine jn_keep [5, 6, 10, 47, 48, 49] [19, 180] (.cons rfl (.cons rfl (.cons rfl (.cons rfl (.cons rfl (.cons rfl .nil)))))) (.cons rfl (.cons rfl .nil)) ?_
          exact jn_loop (fun a w hi => ⟨(i + 1, o2, cM3), (show (prmL c S).length - (i + 1) < (prmL c S).length - i by omega), (show i + 1 ≤ (prmL c S).length by omega), Sub.inv ⟨(by repeat (first | exact SubS_nil | refine SubS_cons rfl (by first | rfl | (simp; done) | assumption | exact ownP (by simp [hg1])) ?_)), (by repeat (first | exact SubH_nil | refine SubH_cons rfl (by first | rfl | (simp; done) | assumption | (rw [hg2]) | (refine congrArg (HB.mk rPattern) ?_; rw [hg1]; (try rw [pat_row, row_end]))) ?_))⟩ hi⟩)
        · have hg1 : (((prmL c S).take (i + 1)).foldl (pstep N) ([], S)).1 = (((prmL c S).take i).foldl (pstep N) ([], S)).1 := by rw [hgs]; simp only [pstep]; rw [if_neg (by rw [h25]; simp)]
          have hg2 : (((prmL c S).take (i + 1)).foldl (pstep N) ([], S)).2 = (fun x => (((prmL c S).take i).foldl (pstep N) ([], S)).2 x && !(decide (x < N) && mt q x)) := by rw [hgs]; rfl
          refine j_skip (jn_blk (jn_seq ?_))
          refine j_region ?_
          refine jg_adr _ rfl _ rfl rfl (op_add (.base rfl) (.base rfl) (w64 (by omega))) ?_
          refine jg_adr _ rfl _ rfl rfl (op_move (.base rfl)) ?_
          refine jg_nil ?_
          refine jn_keep [5, 6, 10, 47, 48, 49] [19, 180] (.cons rfl (.cons rfl (.cons rfl (.cons rfl (.cons rfl (.cons rfl .nil)))))) (.cons rfl (.cons rfl .nil)) ?_
          exact jn_loop (fun a w hi => ⟨(i + 1, o2, cM3), (show (prmL c S).length - (i + 1) < (prmL c S).length - i by omega), (show i + 1 ≤ (prmL c S).length by omega), Sub.inv ⟨(by repeat (first | exact SubS_nil | refine SubS_cons rfl (by first | rfl | (simp; done) | assumption | exact ownP (by simp [hg1])) ?_)), (by repeat (first | exact SubH_nil | refine SubH_cons rfl (by first | rfl | (simp; done) | assumption | (rw [hg2]) | (refine congrArg (HB.mk rPattern) ?_; rw [hg1]; (try rw [pat_row, row_end]))) ?_))⟩ hi⟩)
    · have h15 : ¬ i < (prmL c S).length := by simpa using h15
      refine j_exit (je_seq (je_loop (je_blk (jn_seq (j_seq ?_)))))
      refine j_seal (rt := rPattern) 180 10 (dropH 180 _) rfl rfl (by simp) (dropH_sub 180 _) (dropH_no 180 _) ?_
      refine j_region ?_
      refine jg_adr _ rfl _ rfl rfl (op_move (.base rfl)) ?_
      refine jg_adr _ rfl _ rfl rfl (op_assign (.base rfl)) ?_
      refine jg_nil ?_
      refine jn_keep [4] [] (.cons rfl .nil) .nil ?_
      refine jn_seq (j_ret ?_)
      exact jr_fin1 Try.results10 (res_tmp rfl) rfl (by rw [List.drop_zero, List.take_length]; unfold minF; rw [hN, foldF (by omega)])

end Go.Proofs.Ytmdhmgngomlheaa
