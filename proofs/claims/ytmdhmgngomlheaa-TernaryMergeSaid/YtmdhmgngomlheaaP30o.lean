import Derived.Test.YtmdhmgngomlheaaP30n
namespace Go.Proofs.Ytmdhmgngomlheaa
open Go.Eng
set_option maxRecDepth 100000
set_option maxHeartbeats 4000000
set_option linter.unusedVariables false
set_option linter.unusedSimpArgs false

theorem vld_of {c N m b : Nat} {X : Bool} (hN : 2 ^ c = N) (hm : m < N) (hg : (((((b &&& m : Nat) : Int) != (b : Int)) || X) == false) = true) : vld c (m, b) = true := by
  rw [beq_iff_eq, Bool.or_eq_false_iff] at hg
  have h1 : ((b &&& m : Nat) : Int) = (b : Int) := by simpa using hg.1
  unfold vld
  rw [hN]; simp only [Bool.and_eq_true, decide_eq_true_eq, beq_iff_eq]
  exact ⟨hm, by omega⟩
def fF (c : Nat) (S : Nat → Bool) (fx : Nat) := (List.range fx).foldl (stF c S) st0
def fMk (c : Nat) (S : Nat → Bool) (fx m : Nat) := (List.range m).foldl (stM c S fx) (fF c S fx)
def fB (c : Nat) (S : Nat → Bool) (fx m b : Nat) := (List.range b).foldl (stB c S m) (fMk c S fx m)
theorem fF_succ (c : Nat) (S : Nat → Bool) (fx : Nat) : fF c S (fx + 1) = fMk c S fx (2 ^ c) := fold_succ _ _ _
theorem fMk_ne {c : Nat} {S : Nat → Bool} {fx m : Nat} (h : popN 8 m ≠ fx) : fMk c S fx (m + 1) = fMk c S fx m :=
  (fold_succ (stM c S fx) _ m).trans (if_neg h)
theorem fMk_eq {c : Nat} {S : Nat → Bool} {fx m : Nat} (h : popN 8 m = fx) : fMk c S fx (m + 1) = fB c S fx m (m + 1) :=
  (fold_succ (stM c S fx) _ m).trans (if_pos h)
theorem fB_no {c : Nat} {S : Nat → Bool} {fx m b : Nat} (h : (b &&& m == b && freshB (2 ^ c) S (fB c S fx m b).2 (m, b) && prm c S (m, b)) = false) : fB c S fx m (b + 1) = fB c S fx m b :=
  (fold_succ (stB c S m) _ b).trans (if_neg fun e => Bool.noConfusion (h.symm.trans e))
theorem fB_yes {c : Nat} {S : Nat → Bool} {fx m b : Nat} (h : (b &&& m == b && freshB (2 ^ c) S (fB c S fx m b).2 (m, b) && prm c S (m, b)) = true) : fB c S fx m (b + 1) = ((fB c S fx m b).1 ++ [(m, b)], fun x => (fB c S fx m b).2 x || (decide (x < 2 ^ c) && mt (m, b) x)) :=
  (fold_succ (stB c S m) _ b).trans (if_pos h)
theorem cond_no {b m : Nat} {u v : Bool} (h : (((((b &&& m : Nat) : Int) != (b : Int)) || !u) || !v) = true) : (b &&& m == b && u && v) = false := by
  cases u <;> cases v <;> simp_all
  omega
theorem cond_yes {b m : Nat} {u v : Bool} (h : (((((b &&& m : Nat) : Int) != (b : Int)) || !u) || !v) = false) : (b &&& m == b && u && v) = true := by
  cases u <;> cases v <;> simp_all
  omega
theorem len_m0 {c : Nat} {S : Nat → Bool} {fx : Nat} (h : (fF c S fx).1.length ≤ fx * 65536) : (fMk c S fx 0).1.length ≤ fx * 65536 + 0 * 256 := by
  exact Nat.le_trans h (Nat.le_add_right (fx * 65536) (0 * 256))
theorem len_b0 {c : Nat} {S : Nat → Bool} {fx m : Nat} (h : (fMk c S fx m).1.length ≤ fx * 65536 + m * 256) : (fB c S fx m 0).1.length ≤ fx * 65536 + m * 256 + 0 := by
  exact Nat.le_trans h (Nat.le_add_right (fx * 65536 + m * 256) 0)
theorem bnd_next {a fx m : Nat} (h : a ≤ fx * 65536 + m * 256) (hm : m ≤ 256) : a ≤ (fx + 1) * 65536 := by
  rw [Nat.succ_mul]
  exact Nat.le_trans h (Nat.add_le_add_left (Nat.mul_le_mul_right 256 hm) (fx * 65536))
theorem bnd_m {a fx m : Nat} (h : a ≤ fx * 65536 + m * 256 + (m + 1)) (hm : m + 1 ≤ 256) : a ≤ fx * 65536 + (m + 1) * 256 := by
  rw [Nat.succ_mul, ← Nat.add_assoc]
  exact Nat.le_trans h (Nat.add_le_add_left hm _)
theorem bnd_m0 {a fx m : Nat} (h : a ≤ fx * 65536 + m * 256) : a ≤ fx * 65536 + (m + 1) * 256 :=
  Nat.le_trans h (Nat.add_le_add_left (Nat.mul_le_mul_right 256 (Nat.le_succ m)) _)
theorem bnd_b {a fx m b : Nat} (h : a ≤ fx * 65536 + m * 256 + b) : a ≤ fx * 65536 + m * 256 + (b + 1) := Nat.le_trans h (Nat.le_succ _)
theorem bnd_b1 {l : List NP} {q : NP} {fx m b : Nat} (h : l.length ≤ fx * 65536 + m * 256 + b) : (l ++ [q]).length ≤ fx * 65536 + m * 256 + (b + 1) := by
  rw [List.length_append]; exact Nat.succ_le_succ h
theorem len_of {x y : List NP × (Nat → Bool)} {n : Nat} (e : x = y) (h : y.1.length ≤ n) : x.1.length ≤ n := e ▸ h
theorem row_endP {l r : List TPattern} : List.take l.length (List.drop 0 l) ++ r = l ++ r := by rw [List.drop_zero, List.take_length]
theorem rminimize_ok (nums : List Int) (n : Int) (c N : Nat) (hc : clampF n = c) (hN : 2 ^ c = N) : Ct Try.prog 11 [.tv (rSlice (rInt .i64)) nums, .raw (.int .i64 n)] (.tv (rSlice rPattern) ((minF c (inS N nums)).map pc)) := by
  refine ct_intro Try.func11 rfl rfl Try.ntmps11 rfl rfl ?_
  intro w0 ok0
  have hc8 : c ≤ 8 := hc ▸ clampF_le n
  have hN8 : N ≤ 256 := by rw [← hN]; exact Nat.pow_le_pow_right (n := 2) (by omega) hc8
  refine j_seq ?_
  refine j_region ?_
  refine jg_adr _ rfl _ rfl rfl (op_assign (.base rfl)) ?_
  refine jg_nil ?_
  refine jn_keep [0, 1] [] (.cons rfl (.cons rfl .nil)) .nil ?_
  refine jn_seq (j_seq ?_)
  refine j_region ?_
  refine jg_adr _ rfl _ rfl rfl (op_move (.base rfl)) ?_
  refine jg_adr _ rfl _ rfl rfl (op_call (rclamp_ok _) (.cons (.base rfl) .nil) rfl rfl) ?_
  refine jg_adr _ rfl _ rfl rfl (op_assign (.base rfl)) ?_
  refine jg_nil ?_
  rw [hc]
  refine jn_keep [0, 1] [] (.cons rfl (.cons rfl .nil)) .nil ?_
  refine jn_seq (j_seq ?_)
  refine j_region ?_
  refine jg_adr _ rfl _ rfl rfl (op_move (.base rfl)) ?_
  refine jg_adr _ rfl _ rfl rfl (op_move (.base rfl)) ?_
  refine jg_adr _ rfl _ rfl rfl (op_call (members_r nums c N hc8 hN hN8) (.cons (.base rfl) (.cons (.base rfl) .nil)) rfl rfl) ?_
  refine jg_adr _ rfl _ rfl rfl (op_assign (.base rfl)) ?_
  refine jg_nil ?_
  refine jn_keep [1, 5] [] (.cons rfl (.cons rfl .nil)) .nil ?_
  refine jn_seq (j_seq ?_)
  obtain ⟨S, hS⟩ : ∃ S, inS N nums = S := ⟨_, rfl⟩
  rw [hS]
  have hbl := bl_len N S
  refine j_region ?_
  refine jg_adr _ rfl _ rfl rfl (op_move (.base rfl)) ?_
  refine jg_adr _ rfl _ rfl rfl (op_len Try.underlying45 (.base rfl)) ?_
  refine jg_os _ rfl (op_make Try.underlying45 ty4 z4 rfl by4 (.base rfl) (.base rfl) (by omega) (by unfold maxLen; omega) rfl rfl rfl) ?_
  refine jg_adr _ rfl _ rfl rfl (op_assign (.base rfl)) ?_
  refine jg_nil ?_
  rw [hbl]
  refine jn_keep [1, 5, 6] [20] (.cons rfl (.cons rfl (.cons rfl .nil))) (.cons rfl .nil) ?_
  refine jn_seq (j_seq ?_)
  refine j_region ?_
  refine jg_adr _ rfl _ rfl rfl (op_assign (.base rfl)) ?_
  refine jg_nil ?_
  refine jn_keep [1, 5, 6, 7] [20] (.cons rfl (.cons rfl (.cons rfl (.cons rfl .nil)))) (.cons rfl .nil) ?_
  refine jn_seq (j_seq (j_seq ?_))
  refine j_region ?_
  refine jg_adr _ rfl _ rfl rfl (op_assign (.base rfl)) ?_
  refine jg_nil ?_
  refine jn_keep [1, 5, 6, 7, 8] [20] (.cons rfl (.cons rfl (.cons rfl (.cons rfl (.cons rfl .nil))))) (.cons rfl .nil) ?_
  refine jn_seq (j_block ?_)
  refine j_vac 180 7 rPattern rfl rfl rfl ?_
  refine j_loopp (ι := Nat) (fun fx => ⟨[(1, .raw (.int .i64 ((c : Nat)))), (5, .tv (rSlice rBool) (bl N S)), (6, .own 20 rBool.n 0 N), (7, .own 180 rPattern.n 0 ((fF c S fx).1.map pc).length), (8, .raw (.int .i64 ((fx : Nat))))], [(20, ⟨rBool, bl N (fF c S fx).2⟩), (180, ⟨rPattern, (fF c S fx).1.map pc⟩)]⟩) (fun fx => fx ≤ c + 1 ∧ (fF c S fx).1.length ≤ fx * 65536) (fun fx => c + 1 - fx) 0 (⟨Nat.zero_le _, Nat.zero_le _⟩) (fun a w hi => Sub.inv ⟨(by repeat (first | exact SubS_nil | refine SubS_cons rfl (by first | rfl | (simp; done) | assumption) ?_)), (by repeat (first | exact SubH_nil | refine SubH_cons rfl (by first | rfl | (simp; done) | assumption | exact congrArg (HB.mk rBool) (bl_false N)) ?_))⟩ hi) ?_
  rintro fx ⟨hfx, hlf⟩
  refine j_seq (j_seq ?_)
  refine j_region ?_
  refine jg_adr _ rfl _ rfl rfl (op_move (.base rfl)) ?_
  refine jg_adr _ rfl _ rfl rfl (op_move (.base rfl)) ?_
  refine jg_adr _ rfl _ rfl rfl (op_leq (.base rfl) (.base rfl)) ?_
  refine jg_nil ?_
  refine jn_keep [1, 5, 6, 7, 8, 23] [20, 180] (.cons rfl (.cons rfl (.cons rfl (.cons rfl (.cons rfl (.cons rfl .nil)))))) (.cons rfl (.cons rfl .nil)) ?_
  refine jn_seq ?_
  refine j_cond rfl (fun h6 => ?_) (fun h6 => ?_)
  · have h6 : fx ≤ c := by simp at h6; omega
    refine j_skip (jn_seq (j_seq (j_block (j_seq ?_))))
    refine j_region ?_
    refine jg_adr _ rfl _ rfl rfl (op_assign (.base rfl)) ?_
    refine jg_nil ?_
    refine jn_keep [1, 5, 6, 7, 8, 9] [20, 180] (.cons rfl (.cons rfl (.cons rfl (.cons rfl (.cons rfl (.cons rfl .nil)))))) (.cons rfl (.cons rfl .nil)) ?_
    refine jn_seq (j_block ?_)
    refine j_loopp (ι := Nat) (fun m => ⟨[(1, .raw (.int .i64 ((c : Nat)))), (5, .tv (rSlice rBool) (bl N S)), (6, .own 20 rBool.n 0 N), (7, .own 180 rPattern.n 0 ((fMk c S fx m).1.map pc).length), (8, .raw (.int .i64 ((fx : Nat)))), (9, .raw (.int .i64 ((m : Nat))))], [(20, ⟨rBool, bl N (fMk c S fx m).2⟩), (180, ⟨rPattern, (fMk c S fx m).1.map pc⟩)]⟩) (fun m => m ≤ N ∧ (fMk c S fx m).1.length ≤ fx * 65536 + m * 256) (fun m => N - m) 0 (⟨Nat.zero_le _, len_m0 hlf⟩) (fun a w hi => (Sub.inv ⟨(by repeat (first | exact SubS_nil | refine SubS_cons rfl (by first | rfl | (simp; done) | assumption) ?_)), (by repeat (first | exact SubH_nil | refine SubH_cons rfl (by first | rfl | (simp; done) | assumption) ?_))⟩ hi)) ?_
    rintro m ⟨hm, hlm⟩
    refine j_seq (j_seq ?_)
    refine j_region ?_
    refine jg_adr _ rfl _ rfl rfl (op_move (.base rfl)) ?_
    refine jg_adr _ rfl _ rfl rfl (op_move (.base rfl)) ?_
    refine jg_adr _ rfl _ rfl rfl (op_len Try.underlying45 (.base rfl)) ?_
    refine jg_adr _ rfl _ rfl rfl (op_lss (.base rfl) (.base rfl)) ?_
    refine jg_nil ?_
    refine jn_keep [1, 5, 6, 7, 8, 9, 29] [20, 180] (.cons rfl (.cons rfl (.cons rfl (.cons rfl (.cons rfl (.cons rfl (.cons rfl .nil))))))) (.cons rfl (.cons rfl .nil)) ?_
    refine jn_seq ?_
    refine j_cond rfl (fun h9 => ?_) (fun h9 => ?_)
    · have h9 : m < N := by rw [bl_len] at h9; simp at h9; omega
      refine j_skip (jn_seq (j_seq (j_block (j_seq (j_seq ?_)))))
      refine j_region ?_
      refine jg_adr _ rfl _ rfl rfl (op_move (.base rfl)) ?_
      refine jg_adr _ rfl _ rfl rfl (op_call (ones_r m (by omega)) (.cons (.base rfl) .nil) rfl rfl) ?_
      refine jg_adr _ rfl _ rfl rfl (op_move (.base rfl)) ?_
      refine jg_adr _ rfl _ rfl rfl (op_neq (.base rfl) (.base rfl)) ?_
      refine jg_nil ?_
      refine jn_keep [1, 5, 6, 7, 8, 9, 35] [20, 180] (.cons rfl (.cons rfl (.cons rfl (.cons rfl (.cons rfl (.cons rfl (.cons rfl .nil))))))) (.cons rfl (.cons rfl .nil)) ?_
      refine jn_seq ?_
      refine j_cond rfl (fun h11 => ?_) (fun h11 => ?_)
      · have h11 : popN 8 m ≠ fx := by simp at h11; omega
        have hmA := fMk_ne (c := c) (S := S) h11
        refine j_exit (je_seq (je_blk (jn_seq ?_)))
        refine j_region ?_
        refine jg_adr _ rfl _ rfl rfl (op_move (.base rfl)) ?_
        refine jg_adr _ rfl _ rfl rfl (op_add (.base rfl) (.base rfl) (w64 (by omega))) ?_
        refine jg_adr _ rfl _ rfl rfl (op_assign (.base rfl)) ?_
        refine jg_nil ?_
        refine jn_keep [1, 5, 6, 7, 8, 9] [20, 180] (.cons rfl (.cons rfl (.cons rfl (.cons rfl (.cons rfl (.cons rfl .nil)))))) (.cons rfl (.cons rfl .nil)) ?_
        first
        | exact jn_loop (fun a w hi => ⟨m + 1, (by omega), ⟨by omega, len_of hmB (bnd_m hlb (by omega))⟩, Sub.inv ⟨(by repeat (first | exact SubS_nil | refine SubS_cons rfl (by first | rfl | (simp; done) | assumption | (rw [hmB])) ?_)), (by repeat (first | exact SubH_nil | refine SubH_cons rfl (by first | rfl | (simp; done) | assumption | (rw [hmB])) ?_))⟩ hi⟩)
        | exact jn_loop (fun a w hi => ⟨m + 1, (by omega), ⟨by omega, len_of hmA (bnd_m0 hlm)⟩, Sub.inv ⟨(by repeat (first | exact SubS_nil | refine SubS_cons rfl (by first | rfl | (simp; done) | assumption | (rw [hmA])) ?_)), (by repeat (first | exact SubH_nil | refine SubH_cons rfl (by first | rfl | (simp; done) | assumption | (rw [hmA])) ?_))⟩ hi⟩)
      · have h11 : popN 8 m = fx := by simp at h11; omega
        refine j_skip (jn_seq (j_seq ?_))
        refine j_region ?_
        refine jg_adr _ rfl _ rfl rfl (op_assign (.base rfl)) ?_
        refine jg_nil ?_
        refine jn_keep [1, 5, 6, 7, 8, 9, 10] [20, 180] (.cons rfl (.cons rfl (.cons rfl (.cons rfl (.cons rfl (.cons rfl (.cons rfl .nil))))))) (.cons rfl (.cons rfl .nil)) ?_
        refine jn_seq (j_block ?_)
        refine j_loopp (ι := Nat) (fun b => ⟨[(1, .raw (.int .i64 ((c : Nat)))), (5, .tv (rSlice rBool) (bl N S)), (6, .own 20 rBool.n 0 N), (7, .own 180 rPattern.n 0 ((fB c S fx m b).1.map pc).length), (8, .raw (.int .i64 ((fx : Nat)))), (9, .raw (.int .i64 ((m : Nat)))), (10, .raw (.int .i64 ((b : Nat))))], [(20, ⟨rBool, bl N (fB c S fx m b).2⟩), (180, ⟨rPattern, (fB c S fx m b).1.map pc⟩)]⟩) (fun b => b ≤ m + 1 ∧ (fB c S fx m b).1.length ≤ fx * 65536 + m * 256 + b) (fun b => m + 1 - b) 0 (⟨Nat.zero_le _, len_b0 hlm⟩) (fun a w hi => (Sub.inv ⟨(by repeat (first | exact SubS_nil | refine SubS_cons rfl (by first | rfl | (simp; done) | assumption) ?_)), (by repeat (first | exact SubH_nil | refine SubH_cons rfl (by first | rfl | (simp; done) | assumption) ?_))⟩ hi)) ?_
        rintro b ⟨hb, hlb⟩
        have hbl2 := bl_len N (fB c S fx m b).2
        refine j_seq (j_seq ?_)
        refine j_region ?_
        refine jg_adr _ rfl _ rfl rfl (op_move (.base rfl)) ?_
        refine jg_adr _ rfl _ rfl rfl (op_move (.base rfl)) ?_
        refine jg_adr _ rfl _ rfl rfl (op_leq (.base rfl) (.base rfl)) ?_
        refine jg_nil ?_
        refine jn_keep [1, 5, 6, 7, 8, 9, 10, 38] [20, 180] (.cons rfl (.cons rfl (.cons rfl (.cons rfl (.cons rfl (.cons rfl (.cons rfl (.cons rfl .nil)))))))) (.cons rfl (.cons rfl .nil)) ?_
        refine jn_seq ?_
        refine j_cond rfl (fun h13 => ?_) (fun h13 => ?_)
        · have h13 : b ≤ m := by simp at h13; omega
          refine j_skip (jn_seq (j_seq (j_block (j_seq ?_))))
          refine j_region ?_
          refine jg_adr _ rfl _ rfl rfl (op_move (.base rfl)) ?_
          refine jg_adr _ rfl _ rfl rfl (op_move (.base rfl)) ?_
          refine jg_adr _ rfl _ rfl rfl (op_build z29 rfl pl29 (.cons (rt' := (rInt .i64)) rfl ln29_0 (.raw (.base rfl) rfl) (.cons (rt' := (rInt .i64)) rfl ln29_1 (.raw (.base rfl) rfl) .nil))) ?_
          refine jg_os _ rfl (op_alloc _ z29 rfl rfl rfl) ?_
          refine jg_os _ rfl (op_ostore ty29 (.base rfl) rfl rfl (Lens.id _) (.tv (.base rfl))) ?_
          refine jg_nil ?_
          refine jn_keep [1, 5, 6, 7, 8, 9, 10, 11] [11, 20, 180] (.cons rfl (.cons rfl (.cons rfl (.cons rfl (.cons rfl (.cons rfl (.cons rfl (.cons rfl .nil)))))))) (.cons rfl (.cons rfl (.cons rfl .nil))) ?_
          refine jn_seq (j_seq (j_seq ?_))
          refine j_region ?_
          refine jg_adr _ rfl _ rfl rfl (op_move (.base rfl)) ?_
          refine jg_adr _ rfl _ rfl rfl (op_move (.base rfl)) ?_
          refine jg_adr _ rfl _ rfl rfl (op_and (.base rfl) (.base rfl) (andI_nat (n := b) (m := m) (by omega) (by omega))) ?_
          refine jg_adr _ rfl _ rfl rfl (op_move (.base rfl)) ?_
          refine jg_adr _ rfl _ rfl rfl (op_neq (.base rfl) (.base rfl)) ?_
          refine jg_adr _ rfl _ rfl rfl (op_move (.base rfl)) ?_
          refine jg_gd _ _ _ _ _ _ rfl rfl rfl rfl rfl (fun hg => op_oload ty29 (.base rfl) rfl rfl (Lens.id _)) ?_
          refine jg_gd _ _ _ _ _ _ rfl rfl rfl rfl rfl (fun hg => op_move (.base rfl)) ?_
          refine jg_gd _ _ _ _ _ _ rfl rfl rfl rfl rfl (fun hg => op_move (.base rfl)) ?_
          refine jg_gd _ _ _ _ _ _ rfl rfl rfl rfl rfl (fun hg => op_callb (fresh_own (q := (m, b)) (by show m < 256; omega) hN8 (bl_row _ _)) (.cons (.gd rfl hg) rfl (.cons (.gd rfl hg) rfl (.own (.gd rfl hg) rfl (by first | omega | (simp; try omega)) .nil))) flat_raw) ?_
          refine jg_gd _ _ _ _ _ _ rfl rfl rfl rfl rfl (fun hg => op_not (.gd rfl hg)) ?_
          refine jg_adr _ rfl _ rfl rfl (op_pick_or (.base rfl) (.base rfl) rfl (by intro h; first | (rw [h]; rfl) | (rw [hg, h]; rfl) | (rw [h, hg]; rfl) | simp_all)) ?_
          refine jg_adr _ rfl _ rfl rfl (op_move (.base rfl)) ?_
          refine jg_gd _ _ _ _ _ _ rfl rfl rfl rfl rfl (fun hg => op_oload ty29 (.base rfl) rfl rfl (Lens.id _)) ?_
          refine jg_gd _ _ _ _ _ _ rfl rfl rfl rfl rfl (fun hg => op_move (.base rfl)) ?_
          refine jg_gd _ _ _ _ _ _ rfl rfl rfl rfl rfl (fun hg => op_call (prime_r (m, b) c N S hc8 hN hN8 (vld_of hN h9 hg)) (.cons (.gd rfl hg) (.cons (.gd rfl hg) .nil)) rfl rfl) ?_
          refine jg_gd _ _ _ _ _ _ rfl rfl rfl rfl rfl (fun hg => op_not (.gd rfl hg)) ?_
          refine jg_adr _ rfl _ rfl rfl (op_pick_or (.base rfl) (.base rfl) rfl (by intro h; first | (rw [h]; rfl) | (rw [hg, h]; rfl) | (rw [h, hg]; rfl) | simp_all)) ?_
          refine jg_nil ?_
          refine jn_keep [1, 5, 6, 7, 8, 9, 10, 11, 61] [11, 20, 180] (.cons rfl (.cons rfl (.cons rfl (.cons rfl (.cons rfl (.cons rfl (.cons rfl (.cons rfl (.cons rfl .nil))))))))) (.cons rfl (.cons rfl (.cons rfl .nil))) ?_
          refine jn_seq ?_
          refine j_cond rfl (fun h16 => ?_) (fun h16 => ?_)
          · have hbA := fB_no (c := c) (S := S) (fx := fx) (m := m) (b := b) (by rw [hN]; exact cond_no h16)
            refine j_exit (je_seq (je_blk (jn_seq ?_)))
            refine j_region ?_
            refine jg_adr _ rfl _ rfl rfl (op_move (.base rfl)) ?_
            refine jg_adr _ rfl _ rfl rfl (op_add (.base rfl) (.base rfl) (w64 (by omega))) ?_
            refine jg_adr _ rfl _ rfl rfl (op_assign (.base rfl)) ?_
            refine jg_nil ?_
            refine jn_keep [1, 5, 6, 7, 8, 9, 10] [20, 180] (.cons rfl (.cons rfl (.cons rfl (.cons rfl (.cons rfl (.cons rfl (.cons rfl .nil))))))) (.cons rfl (.cons rfl .nil)) ?_
            first
            | exact jn_loop (fun a w hi => ⟨b + 1, (by omega), ⟨by omega, len_of hbA (bnd_b hlb)⟩, Sub.inv ⟨(by repeat (first | exact SubS_nil | refine SubS_cons rfl (by first | rfl | (simp; done) | assumption | (rw [hbA])) ?_)), (by repeat (first | exact SubH_nil | refine SubH_cons rfl (by first | rfl | (simp; done) | assumption | (rw [hbA])) ?_))⟩ hi⟩)
            | exact jn_loop (fun a w hi => have _hh := hbY; ⟨b + 1, (by omega), ⟨by omega, len_of hbY (bnd_b1 hlb)⟩, Sub.inv ⟨(by repeat (first | exact SubS_nil | refine SubS_cons rfl (by first | rfl | (simp; done) | assumption | (rw [hbY]; simp; done)) ?_)), (by repeat (first | exact SubH_nil | refine SubH_cons rfl (by first | rfl | (simp; done) | assumption | (rw [hbY, hN]; done) | (refine congrArg (HB.mk rPattern) ?_; rw [hbY, row_endP]; exact pat_row.symm)) ?_))⟩ hi⟩)
          · have hbY := fB_yes (c := c) (S := S) (fx := fx) (m := m) (b := b) (by rw [hN]; exact cond_yes h16)
            refine j_skip (jn_seq (j_seq (j_seq ?_)))
            refine j_region ?_
            refine jg_adr _ rfl _ rfl rfl (op_assign (.base rfl)) ?_
            refine jg_nil ?_
            refine jn_keep [1, 5, 6, 7, 8, 9, 10, 11, 12] [11, 20, 180] (.cons rfl (.cons rfl (.cons rfl (.cons rfl (.cons rfl (.cons rfl (.cons rfl (.cons rfl (.cons rfl .nil))))))))) (.cons rfl (.cons rfl (.cons rfl .nil))) ?_
            refine jn_seq (j_block ?_)
            refine j_loopp (ι := Nat) (fun x => ⟨[(1, .raw (.int .i64 ((c : Nat)))), (5, .tv (rSlice rBool) (bl N S)), (6, .own 20 rBool.n 0 N), (7, .own 180 rPattern.n 0 ((fB c S fx m b).1.map pc).length), (8, .raw (.int .i64 ((fx : Nat)))), (9, .raw (.int .i64 ((m : Nat)))), (10, .raw (.int .i64 ((b : Nat)))), (11, .optr 11 rPattern.n 0 0), (12, .raw (.int .i64 ((x : Nat))))], [(20, ⟨rBool, bl N (fun y => (fB c S fx m b).2 y || (decide (y < x) && mt (m, b) y))⟩), (180, ⟨rPattern, (fB c S fx m b).1.map pc⟩), (11, ⟨rPattern, [pc (m, b)]⟩)]⟩) (fun x => x ≤ N) (fun x => N - x) 0 (Nat.zero_le _) (fun a w hi => Sub.inv ⟨(by repeat (first | exact SubS_nil | refine SubS_cons rfl (by first | rfl | (simp; done) | assumption) ?_)), (by repeat (first | exact SubH_nil | refine SubH_cons rfl (by first | rfl | (simp; done) | assumption | exact congrArg (HB.mk rBool) (bl_congr fun y _ => by simp)) ?_))⟩ hi) ?_
            rintro x hx
            refine j_seq (j_seq ?_)
            refine j_region ?_
            refine jg_adr _ rfl _ rfl rfl (op_move (.base rfl)) ?_
            refine jg_adr _ rfl _ rfl rfl (op_move (.base rfl)) ?_
            refine jg_adr _ rfl _ rfl rfl (op_len Try.underlying45 (.base rfl)) ?_
            refine jg_adr _ rfl _ rfl rfl (op_lss (.base rfl) (.base rfl)) ?_
            refine jg_nil ?_
            refine jn_keep [1, 5, 6, 7, 8, 9, 10, 11, 12, 65] [11, 20, 180] (.cons rfl (.cons rfl (.cons rfl (.cons rfl (.cons rfl (.cons rfl (.cons rfl (.cons rfl (.cons rfl (.cons rfl .nil)))))))))) (.cons rfl (.cons rfl (.cons rfl .nil))) ?_
            refine jn_seq ?_
            refine j_cond rfl (fun h18 => ?_) (fun h18 => ?_)
            · have h18 : x < N := by rw [bl_len] at h18; simp at h18; omega
              have hgx : (bl N (fun y => (fB c S fx m b).2 y || (decide (y < x) && mt (m, b) y)))[0 + x]? = some ((fB c S fx m b).2 x || (decide (x < x) && mt (m, b) x)) := by rw [Nat.zero_add]; exact bl_get h18
              have hmx : matchI (pc (m, b)) (x : Int) = mt (m, b) x := matchI_nat (by show m < 256; omega) (by omega)
              have hset : (bl N (fun y => (fB c S fx m b).2 y || (decide (y < x) && mt (m, b) y))).set (0 + x) (((fB c S fx m b).2 x || (decide (x < x) && mt (m, b) x)) || matchI (pc (m, b)) (x : Int)) = bl N (fun y => (fB c S fx m b).2 y || (decide (y < (x + 1)) && mt (m, b) y)) := by
                rw [Nat.zero_add, bl_set h18, hmx]
                refine bl_congr fun y _ => ?_
                by_cases e : y = x
                · subst e; simp
                · rw [if_neg e, show decide (y < x + 1) = decide (y < x) from decide_eq_decide.2 (by omega)]
              refine j_skip (jn_seq (j_seq (j_block ?_)))
              refine j_region ?_
              refine jg_adr _ rfl _ rfl rfl (op_move (.base rfl)) ?_
              refine jg_adr _ rfl _ rfl rfl (op_move (.base rfl)) ?_
              refine jg_adr _ rfl _ rfl rfl (op_move (.base rfl)) ?_
              refine jg_adr _ rfl _ rfl rfl (op_move (.base rfl)) ?_
              refine jg_adr _ rfl _ rfl rfl (op_oindex Try.underlying45 ty4 (.base rfl) (.base rfl) rfl (by first | omega | (simp; done) | (simp; omega))) ?_
              refine jg_adr _ rfl _ rfl rfl (op_oload ty4 (.base rfl) rfl hgx (Lens.id _)) ?_
              refine jg_adr _ rfl _ rfl rfl (op_move (.base rfl)) ?_
              refine jg_gd _ _ _ _ _ _ rfl rfl rfl rfl rfl (fun hg => op_oload ty29 (.base rfl) rfl rfl (Lens.id _)) ?_
              refine jg_gd _ _ _ _ _ _ rfl rfl rfl rfl rfl (fun hg => op_move (.base rfl)) ?_
              refine jg_gd _ _ _ _ _ _ rfl rfl rfl rfl rfl (fun hg => op_call (rmatches_ok _ _) (.cons (.gd rfl hg) (.cons (.gd rfl hg) .nil)) rfl rfl) ?_
              refine jg_adr _ rfl _ rfl rfl (op_pick_or (.base rfl) (.base rfl) rfl (by intro h; first | (rw [h]; rfl) | (rw [hg, h]; rfl) | (rw [h, hg]; rfl) | simp_all)) ?_
              refine jg_adr _ rfl _ rfl rfl (op_oindex Try.underlying45 ty4 (.base rfl) (.base rfl) rfl (by first | omega | (simp; done) | (simp; omega))) ?_
              refine jg_os _ rfl (op_ostore ty4 (.base rfl) rfl hgx (Lens.id _) (.raw (.base rfl) rfl)) ?_
              refine jg_nil ?_
              refine jn_keep [1, 5, 6, 7, 8, 9, 10, 11, 12] [11, 20, 180] (.cons rfl (.cons rfl (.cons rfl (.cons rfl (.cons rfl (.cons rfl (.cons rfl (.cons rfl (.cons rfl .nil))))))))) (.cons rfl (.cons rfl (.cons rfl .nil))) ?_
              refine jn_blk (jn_seq ?_)
              refine j_region ?_
              refine jg_adr _ rfl _ rfl rfl (op_move (.base rfl)) ?_
              refine jg_adr _ rfl _ rfl rfl (op_add (.base rfl) (.base rfl) (w64 (by omega))) ?_
              refine jg_adr _ rfl _ rfl rfl (op_assign (.base rfl)) ?_
              refine jg_nil ?_
              refine jn_keep [1, 5, 6, 7, 8, 9, 10, 11, 12] [11, 20, 180] (.cons rfl (.cons rfl (.cons rfl (.cons rfl (.cons rfl (.cons rfl (.cons rfl (.cons rfl (.cons rfl .nil))))))))) (.cons rfl (.cons rfl (.cons rfl .nil))) ?_
              exact jn_loop (fun a w hi => ⟨x + 1, (by omega), (by omega), Sub.inv ⟨(by repeat (first | exact SubS_nil | refine SubS_cons rfl (by first | rfl | (simp; done) | assumption) ?_)), (by repeat (first | exact SubH_nil | refine SubH_cons rfl (by first | rfl | (simp; done) | assumption | exact congrArg (HB.mk rBool) hset) ?_))⟩ hi⟩)
            · have h18 : ¬ x < N := by rw [bl_len] at h18; simp at h18; omega
              obtain rfl : N = x := by omega
              refine j_exit (je_seq (je_loop (je_blk (jn_seq ?_))))
              refine j_region ?_
              refine jg_adr _ rfl _ rfl rfl (op_move (.base rfl)) ?_
              refine jg_adr _ rfl _ rfl rfl (op_oload ty29 (.base rfl) rfl rfl (Lens.id _)) ?_
              refine jg_adr _ rfl _ rfl rfl (op_bslice (rt := rPattern) Try.underlying25 ty29 z29 rfl (.cons (.tv (.base rfl)) .nil) rfl rfl) ?_
              refine jg_os _ rfl (op_append [1, 5, 6, 8, 9, 10] Try.underlying25 ty29 z29 rfl by29 (.base rfl) rfl (by (try simp); try omega) (.tv (.base rfl)) (by unfold maxLen; (try simp); try omega) (by (try simp); try omega) rfl (.cons rfl (.cons rfl (.cons rfl (.cons rfl (.cons rfl (.cons rfl .nil)))))) rfl) ?_
              refine jg_adr _ rfl _ rfl rfl (op_assign (.base rfl)) ?_
              refine jg_nil ?_
              refine jn_keep [1, 5, 6, 7, 8, 9, 10] [20, 180] (.cons rfl (.cons rfl (.cons rfl (.cons rfl (.cons rfl (.cons rfl (.cons rfl .nil))))))) (.cons rfl (.cons rfl .nil)) ?_
              refine jn_blk (jn_seq ?_)
              refine j_region ?_
              refine jg_adr _ rfl _ rfl rfl (op_move (.base rfl)) ?_
              refine jg_adr _ rfl _ rfl rfl (op_add (.base rfl) (.base rfl) (w64 (by omega))) ?_
              refine jg_adr _ rfl _ rfl rfl (op_assign (.base rfl)) ?_
              refine jg_nil ?_
              refine jn_keep [1, 5, 6, 7, 8, 9, 10] [20, 180] (.cons rfl (.cons rfl (.cons rfl (.cons rfl (.cons rfl (.cons rfl (.cons rfl .nil))))))) (.cons rfl (.cons rfl .nil)) ?_
              first
              | exact jn_loop (fun a w hi => ⟨b + 1, (by omega), ⟨by omega, len_of hbA (bnd_b hlb)⟩, Sub.inv ⟨(by repeat (first | exact SubS_nil | refine SubS_cons rfl (by first | rfl | (simp; done) | assumption | (rw [hbA])) ?_)), (by repeat (first | exact SubH_nil | refine SubH_cons rfl (by first | rfl | (simp; done) | assumption | (rw [hbA])) ?_))⟩ hi⟩)
              | exact jn_loop (fun a w hi => have _hh := hbY; ⟨b + 1, (by omega), ⟨by omega, len_of hbY (bnd_b1 hlb)⟩, Sub.inv ⟨(by repeat (first | exact SubS_nil | refine SubS_cons rfl (by first | rfl | (simp; done) | assumption | (rw [hbY]; simp; done)) ?_)), (by repeat (first | exact SubH_nil | refine SubH_cons rfl (by first | rfl | (simp; done) | assumption | (rw [hbY, hN]; done) | (refine congrArg (HB.mk rPattern) ?_; rw [hbY, row_endP]; exact pat_row.symm)) ?_))⟩ hi⟩)
        · have h13 : ¬ b ≤ m := by simp at h13; omega
          obtain rfl : b = m + 1 := by omega
          have hmB := fMk_eq (c := c) (S := S) h11
          refine j_exit (je_seq (je_loop (je_blk (jn_blk (jn_seq ?_)))))
          refine j_region ?_
          refine jg_adr _ rfl _ rfl rfl (op_move (.base rfl)) ?_
          refine jg_adr _ rfl _ rfl rfl (op_add (.base rfl) (.base rfl) (w64 (by omega))) ?_
          refine jg_adr _ rfl _ rfl rfl (op_assign (.base rfl)) ?_
          refine jg_nil ?_
          refine jn_keep [1, 5, 6, 7, 8, 9] [20, 180] (.cons rfl (.cons rfl (.cons rfl (.cons rfl (.cons rfl (.cons rfl .nil)))))) (.cons rfl (.cons rfl .nil)) ?_
          first
          | exact jn_loop (fun a w hi => ⟨m + 1, (by omega), ⟨by omega, len_of hmB (bnd_m hlb (by omega))⟩, Sub.inv ⟨(by repeat (first | exact SubS_nil | refine SubS_cons rfl (by first | rfl | (simp; done) | assumption | (rw [hmB])) ?_)), (by repeat (first | exact SubH_nil | refine SubH_cons rfl (by first | rfl | (simp; done) | assumption | (rw [hmB])) ?_))⟩ hi⟩)
          | exact jn_loop (fun a w hi => ⟨m + 1, (by omega), ⟨by omega, len_of hmA (bnd_m0 hlm)⟩, Sub.inv ⟨(by repeat (first | exact SubS_nil | refine SubS_cons rfl (by first | rfl | (simp; done) | assumption | (rw [hmA])) ?_)), (by repeat (first | exact SubH_nil | refine SubH_cons rfl (by first | rfl | (simp; done) | assumption | (rw [hmA])) ?_))⟩ hi⟩)
    · have h9 : ¬ m < N := by rw [bl_len] at h9; simp at h9; omega
      obtain rfl : m = N := by omega
      have hs : fF c S (fx + 1) = fMk c S fx m := by rw [fF_succ, hN]
      refine j_exit (je_seq (je_loop (je_blk (jn_blk (jn_seq ?_)))))
      refine j_region ?_
      refine jg_adr _ rfl _ rfl rfl (op_move (.base rfl)) ?_
      refine jg_adr _ rfl _ rfl rfl (op_add (.base rfl) (.base rfl) (w64 (by omega))) ?_
      refine jg_adr _ rfl _ rfl rfl (op_assign (.base rfl)) ?_
      refine jg_nil ?_
      refine jn_keep [1, 5, 6, 7, 8] [20, 180] (.cons rfl (.cons rfl (.cons rfl (.cons rfl (.cons rfl .nil))))) (.cons rfl (.cons rfl .nil)) ?_
      exact jn_loop (fun a w hi => ⟨fx + 1, (by omega), ⟨by omega, len_of hs (bnd_next hlm (by omega))⟩, Sub.inv ⟨(by repeat (first | exact SubS_nil | refine SubS_cons rfl (by first | rfl | (simp; done) | assumption | (rw [hs])) ?_)), (by repeat (first | exact SubH_nil | refine SubH_cons rfl (by first | rfl | (simp; done) | assumption | (rw [hs])) ?_))⟩ hi⟩)
  · have h6 : ¬ fx ≤ c := by simp at h6; omega
    obtain rfl : fx = c + 1 := by omega
    refine j_exit (je_seq (je_loop (je_blk (jn_seq (j_seq ?_)))))
    refine j_seal (rt := rPattern) 180 7 (dropH 180 _) rfl rfl (by simp) (dropH_sub 180 _) (dropH_no 180 _) ?_
    refine j_region ?_
    refine jg_adr _ rfl _ rfl rfl (op_move (.base rfl)) ?_
    refine jg_adr _ rfl _ rfl rfl (op_assign (.base rfl)) ?_
    refine jg_nil ?_
    refine jn_keep [4] [] (.cons rfl .nil) .nil ?_
    refine jn_seq (j_ret ?_)
    exact jr_fin1 Try.results11 (res_tmp rfl) rfl (by rw [List.drop_zero, List.take_length, show (fF c S (c + 1)).1 = minF c S from ref_min c S])

end Go.Proofs.Ytmdhmgngomlheaa
