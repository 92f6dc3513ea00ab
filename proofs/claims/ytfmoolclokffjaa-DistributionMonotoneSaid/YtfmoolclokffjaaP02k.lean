import Derived.Test.YtfmoolclokffjaaP02i
namespace Go.Proofs.Ytfmoolclokffjaa
open Go.Eng
set_option maxRecDepth 100000
set_option maxHeartbeats 4000000
set_option linter.unusedVariables false
set_option linter.unusedSimpArgs false


theorem quo_natI' {n m : Nat} {c : Int} (hc : c = (m : Int)) (h : n ≤ 9223372036854775807) : IntKind.i64.wrap ((n : Int).tdiv c) = ((n / m : Nat) : Int) := by subst hc; exact quo_natI h
/-- a bit more of the multiplication -/
theorem part_step {x w s e q r r' b : Nat} (he : 0 < e) (hs : 0 < s) (hi : q * s + r = x * (w / 2 ^ e)) (hb : w / (2 ^ e / 2) % 2 = b) (hr : r' = 2 * r + x * b) : (2 * q + r' / s) * s + r' % s = x * (w / 2 ^ (e - 1)) := by
  have h1 : 2 ^ e / 2 = 2 ^ (e - 1) := by
    obtain ⟨k, rfl⟩ : ∃ k, e = k + 1 := ⟨e - 1, by omega⟩
    rw [Nat.pow_succ, Nat.mul_div_cancel _ (by decide)]; rfl
  have h2 : w / 2 ^ e = w / 2 ^ (e - 1) / 2 := by
    rw [Nat.div_div_eq_div_mul, ← Nat.pow_succ, show (e - 1).succ = e by omega]
  rw [h1] at hb
  have h3 : w / 2 ^ (e - 1) = 2 * (w / 2 ^ e) + b := by rw [h2, ← hb]; omega
  rw [h3, Nat.mul_add, Nat.mul_left_comm, ← hi, Nat.add_mul]
  have := Nat.div_add_mod' r' s
  rw [Nat.mul_assoc]
  omega
theorem part_q {x w s q r : Nat} (hx : x < s) (h : q * s + r = x * w) : q ≤ w := by
  apply Nat.le_of_mul_le_mul_right _ (show 0 < s by omega)
  calc q * s ≤ x * w := by omega
    _ ≤ s * w := Nat.mul_le_mul_right _ (Nat.le_of_lt hx)
    _ = w * s := Nat.mul_comm _ _
theorem part_end {x w s q r : Nat} (hr : r < s) (h : q * s + r = x * w) : q = x * w / s ∧ r = x * w % s := by
  rw [← h]
  constructor
  · rw [Nat.add_comm, Nat.add_mul_div_right _ _ (by omega), Nat.div_eq_of_lt hr, Nat.zero_add]
  · rw [Nat.add_comm, Nat.add_mul_mod_self_right, Nat.mod_eq_of_lt hr]
theorem pow_le31 {e : Nat} (h : e ≤ 31) : 2 ^ e ≤ 2147483648 := Nat.pow_le_pow_right (by decide) h
theorem half_pos {e : Nat} : 0 < 2 ^ e / 2 ↔ 0 < e := by
  constructor
  · intro h
    rcases Nat.eq_zero_or_pos e with q | q
    · subst q; simp at h
    · exact q
  · intro h
    obtain ⟨k, rfl⟩ : ∃ k, e = k + 1 := ⟨e - 1, by omega⟩
    rw [Nat.pow_succ, Nat.mul_div_cancel _ (by decide)]
    exact Nat.pow_pos (by decide)
theorem half_half {e : Nat} (h : 0 < e) : 2 ^ e / 2 / 2 = 2 ^ (e - 1) / 2 := by
  obtain ⟨k, rfl⟩ : ∃ k, e = k + 1 := ⟨e - 1, by omega⟩
  rw [Nat.pow_succ, Nat.mul_div_cancel _ (by decide)]; rfl

theorem part_ok (x w s : Nat) (hx : x < s) (hs : s ≤ 64000000000) (hw : w ≤ 1000000000) : Ct Try.prog 44 [.raw (.int .i64 (x : Nat)), .raw (.int .i64 (w : Nat)), .raw (.int .i64 (s : Nat))] (.tup2 (.raw (.int .i64 ((x * w / s) : Nat))) (.raw (.int .i64 ((x * w % s) : Nat)))) := by
  refine ct_intro Try.func44 rfl rfl Try.ntmps44 rfl rfl ?_
  intro w0 ok0
  refine j_seq ?_
  refine j_region ?_
  refine jg_adr _ rfl _ rfl rfl (op_assign (.base rfl)) ?_
  refine jg_adr _ rfl _ rfl rfl (op_assign (.base rfl)) ?_
  refine jg_nil ?_
  refine jn_keep [0, 1, 2] [] (.cons rfl (.cons rfl (.cons rfl .nil))) .nil ?_
  refine jn_seq (j_seq ?_)
  refine j_region ?_
  refine jg_adr _ rfl _ rfl rfl (op_assign (.base rfl)) ?_
  refine jg_adr _ rfl _ rfl rfl (op_assign (.base rfl)) ?_
  refine jg_nil ?_
  refine jn_keep [0, 1, 2, 8, 9] [] (.cons rfl (.cons rfl (.cons rfl (.cons rfl (.cons rfl .nil))))) .nil ?_
  refine jn_seq (j_seq (j_seq ?_))
  refine j_region ?_
  refine jg_adr _ rfl _ rfl rfl (op_assign (.base rfl)) ?_
  refine jg_nil ?_
  refine jn_keep [0, 1, 2, 8, 9, 10] [] (.cons rfl (.cons rfl (.cons rfl (.cons rfl (.cons rfl (.cons rfl .nil)))))) .nil ?_
  refine jn_seq (j_block ?_)
  refine j_loopp (ι := Nat × Nat × Nat) (fun (e, q, r) => ⟨[(0, .raw (.int .i64 (x : Nat))), (1, .raw (.int .i64 (w : Nat))), (2, .raw (.int .i64 (s : Nat))), (8, .raw (.int .i64 (q : Nat))), (9, .raw (.int .i64 (r : Nat))), (10, .raw (.int .i64 ((2 ^ e / 2) : Nat)))], []⟩) (fun (e, q, r) => e ≤ 31 ∧ q * s + r = x * (w / 2 ^ e) ∧ r < s) (fun (e, q, r) => e) (31, 0, 0) (⟨by omega, by rw [Nat.div_eq_of_lt (by omega)]; simp, by omega⟩) (fun a w hi => (Sub.inv ⟨(by repeat (first | exact SubS_nil | refine SubS_cons rfl (by first | rfl | (simp; done) | assumption) ?_)), (by repeat (first | exact SubH_nil | refine SubH_cons rfl (by first | rfl | (simp; done) | assumption) ?_))⟩ hi)) ?_
  rintro ⟨e, q, r⟩ ⟨p1, p2, p3⟩
  refine j_seq (j_seq ?_)
  refine j_region ?_
  refine jg_adr _ rfl _ rfl rfl (op_move (.base rfl)) ?_
  refine jg_adr _ rfl _ rfl rfl (op_gtr (.base rfl) (.base rfl)) ?_
  refine jg_nil ?_
  refine jn_keep [0, 1, 2, 8, 9, 10, 12] [] (.cons rfl (.cons rfl (.cons rfl (.cons rfl (.cons rfl (.cons rfl (.cons rfl .nil))))))) .nil ?_
  refine jn_seq ?_
  refine j_cond rfl (fun h3 => ?_) (fun h3 => ?_)
  · have he : 0 < e := half_pos.1 (by have := of_decide_eq_true h3; omega)
    have hb0 := half_pos.2 he
    have hle := pow_le31 p1
    have hq := part_q hx p2
    have hw2 := Nat.div_le_self w (2 ^ e)
    refine j_skip (jn_seq (j_seq (j_block (j_seq ?_))))
    refine j_region ?_
    refine jg_adr _ rfl _ rfl rfl (op_move (.base rfl)) ?_
    refine jg_adr _ rfl _ rfl rfl (op_mul (.base rfl) (.base rfl) (mul_natI (n := 2) (by omega))) ?_
    refine jg_adr _ rfl _ rfl rfl (op_move (.base rfl)) ?_
    refine jg_adr _ rfl _ rfl rfl (op_mul (.base rfl) (.base rfl) (mul_natI (n := 2) (by omega))) ?_
    refine jg_adr _ rfl _ rfl rfl (op_assign (.base rfl)) ?_
    refine jg_adr _ rfl _ rfl rfl (op_assign (.base rfl)) ?_
    refine jg_nil ?_
    refine jn_keep [0, 1, 2, 8, 9, 10] [] (.cons rfl (.cons rfl (.cons rfl (.cons rfl (.cons rfl (.cons rfl .nil)))))) .nil ?_
    refine jn_seq (j_seq (j_seq ?_))
    refine j_region ?_
    refine jg_adr _ rfl _ rfl rfl (op_move (.base rfl)) ?_
    refine jg_adr _ rfl _ rfl rfl (op_move (.base rfl)) ?_
    refine jg_adr _ rfl _ rfl rfl (op_quo (.base rfl) (.base rfl) (by omega) (quo_natI (by omega))) ?_
    refine jg_adr _ rfl _ rfl rfl (op_rem_e (.base rfl) (.base rfl) (by omega) (rem_nat (m := 2))) ?_
    refine jg_adr _ rfl _ rfl rfl (op_eql (.base rfl) (.base rfl)) ?_
    refine jg_nil ?_
    refine jn_keep [0, 1, 2, 8, 9, 10, 23] [] (.cons rfl (.cons rfl (.cons rfl (.cons rfl (.cons rfl (.cons rfl (.cons rfl .nil))))))) .nil ?_
    refine jn_seq ?_
    refine j_cond rfl (fun h6 => ?_) (fun h6 => ?_)
    · have h6 : w / (2 ^ e / 2) % 2 = 1 := by have := beq_iff_eq.1 h6; omega
      have hd1 := Nat.div_le_self (2 * r + x) s
      refine j_region ?_
      refine jg_adr _ rfl _ rfl rfl (op_move (.base rfl)) ?_
      refine jg_adr _ rfl _ rfl rfl (op_move (.base rfl)) ?_
      refine jg_adr _ rfl _ rfl rfl (op_add (.base rfl) (.base rfl) (add_natI (by omega))) ?_
      refine jg_adr _ rfl _ rfl rfl (op_assign (.base rfl)) ?_
      refine jg_nil ?_
      refine jn_keep [0, 1, 2, 8, 9, 10] [] (.cons rfl (.cons rfl (.cons rfl (.cons rfl (.cons rfl (.cons rfl .nil)))))) .nil ?_
      refine jn_seq (j_seq ?_)
      refine j_region ?_
      refine jg_adr _ rfl _ rfl rfl (op_move (.base rfl)) ?_
      refine jg_adr _ rfl _ rfl rfl (op_move (.base rfl)) ?_
      refine jg_adr _ rfl _ rfl rfl (op_move (.base rfl)) ?_
      refine jg_adr _ rfl _ rfl rfl (op_quo (.base rfl) (.base rfl) (by omega) (quo_natI (by omega))) ?_
      refine jg_adr _ rfl _ rfl rfl (op_add (.base rfl) (.base rfl) (add_natI (by omega))) ?_
      refine jg_adr _ rfl _ rfl rfl (op_assign (.base rfl)) ?_
      refine jg_nil ?_
      refine jn_keep [0, 1, 2, 8, 9, 10] [] (.cons rfl (.cons rfl (.cons rfl (.cons rfl (.cons rfl (.cons rfl .nil)))))) .nil ?_
      refine jn_seq ?_
      refine j_region ?_
      refine jg_adr _ rfl _ rfl rfl (op_move (.base rfl)) ?_
      refine jg_adr _ rfl _ rfl rfl (op_move (.base rfl)) ?_
      refine jg_adr _ rfl _ rfl rfl (op_rem_e (.base rfl) (.base rfl) (by omega) rem_nat) ?_
      refine jg_adr _ rfl _ rfl rfl (op_assign (.base rfl)) ?_
      refine jg_nil ?_
      refine jn_keep [0, 1, 2, 8, 9, 10] [] (.cons rfl (.cons rfl (.cons rfl (.cons rfl (.cons rfl (.cons rfl .nil)))))) .nil ?_
      refine jn_blk (jn_seq ?_)
      refine j_region ?_
      refine jg_adr _ rfl _ rfl rfl (op_move (.base rfl)) ?_
      refine jg_adr _ rfl _ rfl rfl (op_quo (.base rfl) (.base rfl) (by omega) (quo_natI' (m := 2) rfl (by omega))) ?_
      refine jg_adr _ rfl _ rfl rfl (op_assign (.base rfl)) ?_
      refine jg_nil ?_
      refine jn_keep [0, 1, 2, 8, 9, 10] [] (.cons rfl (.cons rfl (.cons rfl (.cons rfl (.cons rfl (.cons rfl .nil)))))) .nil ?_
      first | (exact jn_loop (fun a w hi => ⟨(e - 1, 2 * q + (2 * r + x) / s, (2 * r + x) % s), (by show e - 1 < e; omega), ⟨by omega, part_step he (by omega) p2 h6 (by omega), Nat.mod_lt _ (by omega)⟩, (Sub.inv ⟨(by repeat (first | exact SubS_nil | refine SubS_cons rfl (by first | rfl | exact ri (by rw [half_half he])) ?_)), (by repeat (first | exact SubH_nil | refine SubH_cons rfl (by first | rfl | (simp; done) | assumption) ?_))⟩ hi)⟩)) | (exact jn_loop (fun a w hi => ⟨(e - 1, 2 * q + (2 * r) / s, (2 * r) % s), (by show e - 1 < e; omega), ⟨by omega, part_step he (by omega) p2 h6 (by omega), Nat.mod_lt _ (by omega)⟩, (Sub.inv ⟨(by repeat (first | exact SubS_nil | refine SubS_cons rfl (by first | rfl | exact ri (by rw [half_half he])) ?_)), (by repeat (first | exact SubH_nil | refine SubH_cons rfl (by first | rfl | (simp; done) | assumption) ?_))⟩ hi)⟩))
    · have h6 : w / (2 ^ e / 2) % 2 = 0 := by have := beq_eq_false_iff_ne.1 h6; omega
      have hd1 := Nat.div_le_self (2 * r) s
      refine j_skip (jn_seq (j_seq ?_))
      refine j_region ?_
      refine jg_adr _ rfl _ rfl rfl (op_move (.base rfl)) ?_
      refine jg_adr _ rfl _ rfl rfl (op_move (.base rfl)) ?_
      refine jg_adr _ rfl _ rfl rfl (op_move (.base rfl)) ?_
      refine jg_adr _ rfl _ rfl rfl (op_quo (.base rfl) (.base rfl) (by omega) (quo_natI (by omega))) ?_
      refine jg_adr _ rfl _ rfl rfl (op_add (.base rfl) (.base rfl) (add_natI (by omega))) ?_
      refine jg_adr _ rfl _ rfl rfl (op_assign (.base rfl)) ?_
      refine jg_nil ?_
      refine jn_keep [0, 1, 2, 8, 9, 10] [] (.cons rfl (.cons rfl (.cons rfl (.cons rfl (.cons rfl (.cons rfl .nil)))))) .nil ?_
      refine jn_seq ?_
      refine j_region ?_
      refine jg_adr _ rfl _ rfl rfl (op_move (.base rfl)) ?_
      refine jg_adr _ rfl _ rfl rfl (op_move (.base rfl)) ?_
      refine jg_adr _ rfl _ rfl rfl (op_rem_e (.base rfl) (.base rfl) (by omega) rem_nat) ?_
      refine jg_adr _ rfl _ rfl rfl (op_assign (.base rfl)) ?_
      refine jg_nil ?_
      refine jn_keep [0, 1, 2, 8, 9, 10] [] (.cons rfl (.cons rfl (.cons rfl (.cons rfl (.cons rfl (.cons rfl .nil)))))) .nil ?_
      refine jn_blk (jn_seq ?_)
      refine j_region ?_
      refine jg_adr _ rfl _ rfl rfl (op_move (.base rfl)) ?_
      refine jg_adr _ rfl _ rfl rfl (op_quo (.base rfl) (.base rfl) (by omega) (quo_natI' (m := 2) rfl (by omega))) ?_
      refine jg_adr _ rfl _ rfl rfl (op_assign (.base rfl)) ?_
      refine jg_nil ?_
      refine jn_keep [0, 1, 2, 8, 9, 10] [] (.cons rfl (.cons rfl (.cons rfl (.cons rfl (.cons rfl (.cons rfl .nil)))))) .nil ?_
      first | (exact jn_loop (fun a w hi => ⟨(e - 1, 2 * q + (2 * r + x) / s, (2 * r + x) % s), (by show e - 1 < e; omega), ⟨by omega, part_step he (by omega) p2 h6 (by omega), Nat.mod_lt _ (by omega)⟩, (Sub.inv ⟨(by repeat (first | exact SubS_nil | refine SubS_cons rfl (by first | rfl | exact ri (by rw [half_half he])) ?_)), (by repeat (first | exact SubH_nil | refine SubH_cons rfl (by first | rfl | (simp; done) | assumption) ?_))⟩ hi)⟩)) | (exact jn_loop (fun a w hi => ⟨(e - 1, 2 * q + (2 * r) / s, (2 * r) % s), (by show e - 1 < e; omega), ⟨by omega, part_step he (by omega) p2 h6 (by omega), Nat.mod_lt _ (by omega)⟩, (Sub.inv ⟨(by repeat (first | exact SubS_nil | refine SubS_cons rfl (by first | rfl | exact ri (by rw [half_half he])) ?_)), (by repeat (first | exact SubH_nil | refine SubH_cons rfl (by first | rfl | (simp; done) | assumption) ?_))⟩ hi)⟩))
  · have he : e = 0 := by
      rcases Nat.eq_zero_or_pos e with z | z
      · exact z
      · have := half_pos.2 z; have := of_decide_eq_false h3; omega
    subst he
    rw [Nat.pow_zero, Nat.div_one] at p2
    have hend := part_end p3 p2
    refine j_exit (je_seq (je_loop (je_blk (jn_seq (j_seq ?_)))))
    refine j_region ?_
    refine jg_adr _ rfl _ rfl rfl (op_move (.base rfl)) ?_
    refine jg_adr _ rfl _ rfl rfl (op_move (.base rfl)) ?_
    refine jg_adr _ rfl _ rfl rfl (op_assign (.base rfl)) ?_
    refine jg_adr _ rfl _ rfl rfl (op_assign (.base rfl)) ?_
    refine jg_nil ?_
    refine jn_keep [6, 7] [] (.cons rfl (.cons rfl .nil)) .nil ?_
    refine jn_seq (j_ret ?_)
    exact jr_fin2 Try.results44 (res_tmp rfl) (res_tmp rfl) ⟨rfl, rfl⟩ (by rw [← hend.1, ← hend.2])


/-- the first of the greatest among the positive ones of the first k -/
def grF (l : List Int) : Nat → Int
  | 0 => -1
  | k + 1 => if (decide (l.getD k 0 > 0) && (decide (grF l k < 0) || decide (l.getD k 0 > l.getD (grF l k).toNat 0))) = true then (k : Int) else grF l k
theorem grF_bd (l : List Int) (k : Nat) : -1 ≤ grF l k ∧ grF l k < k := by
  induction k with
  | zero => simp [grF]
  | succ k ih => simp only [grF]; split <;> omega
theorem grF_lo {l : List Int} {i : Nat} (hlo : ∀ j, j < i → l.getD j 0 < l.getD i 0) : ∀ k, k ≤ i → grF l k < 0 ∨ (0 ≤ grF l k ∧ (grF l k).toNat < i) := fun k hk => by
  have := grF_bd l k; omega
theorem grF_at {l : List Int} {i : Nat} (hpos : 0 < l.getD i 0) (hlo : ∀ j, j < i → l.getD j 0 < l.getD i 0) (hhi : ∀ j, l.getD j 0 ≤ l.getD i 0) : ∀ d, grF l (i + 1 + d) = (i : Int)
  | 0 => by
    have hb := grF_bd l i
    simp only [Nat.add_zero, grF]
    rw [if_pos]
    rw [Bool.and_eq_true, Bool.or_eq_true]
    refine ⟨decide_eq_true hpos, ?_⟩
    by_cases h : grF l i < 0
    · exact .inl (decide_eq_true h)
    · exact .inr (decide_eq_true (hlo _ (by omega)))
  | d + 1 => by
    have ih := grF_at hpos hlo hhi d
    rw [show i + 1 + (d + 1) = (i + 1 + d) + 1 by omega]
    simp only [grF]
    rw [ih, if_neg]
    have := hhi (i + 1 + d)
    intro q
    rw [Bool.and_eq_true, Bool.or_eq_true] at q
    rcases q.2 with z | z
    · have := of_decide_eq_true z; omega
    · have := of_decide_eq_true z; rw [Int.toNat_natCast] at this; omega

theorem greatest_ok (l : List Int) : Ct Try.prog 45 [.tv (rSlice (rInt .i64)) l] (.raw (.int .i64 (grF l l.length))) := by
  refine ct_intro Try.func45 rfl rfl Try.ntmps45 rfl rfl ?_
  intro w0 ok0
  refine j_len 0 rfl (fun hl0 => ?_)
  refine j_seq ?_
  refine j_region ?_
  refine jg_adr _ rfl _ rfl rfl (op_assign (.base rfl)) ?_
  refine jg_nil ?_
  refine jn_keep [0] [] (.cons rfl .nil) .nil ?_
  refine jn_seq (j_seq ?_)
  refine j_region ?_
  refine jg_adr _ rfl _ rfl rfl (op_assign (.base rfl)) ?_
  refine jg_nil ?_
  refine jn_keep [0, 3] [] (.cons rfl (.cons rfl .nil)) .nil ?_
  refine jn_seq (j_seq (j_seq ?_))
  refine j_region ?_
  refine jg_adr _ rfl _ rfl rfl (op_assign (.base rfl)) ?_
  refine jg_nil ?_
  refine jn_keep [0, 3, 4] [] (.cons rfl (.cons rfl (.cons rfl .nil))) .nil ?_
  refine jn_seq (j_block ?_)
  refine j_loopp (ι := Nat) (fun k => ⟨[(0, .tv (rSlice (rInt .i64)) l), (3, .raw (.int .i64 (grF l k))), (4, .raw (.int .i64 ((k : Nat))))], []⟩) (fun k => k ≤ l.length) (fun k => l.length - k) 0 (Nat.zero_le _) (fun a w hi => (Sub.inv ⟨(by repeat (first | exact SubS_nil | refine SubS_cons rfl (by first | rfl | (simp; done) | assumption) ?_)), (by repeat (first | exact SubH_nil | refine SubH_cons rfl (by first | rfl | (simp; done) | assumption) ?_))⟩ hi)) ?_
  rintro k p1
  refine j_seq (j_seq ?_)
  refine j_region ?_
  refine jg_adr _ rfl _ rfl rfl (op_move (.base rfl)) ?_
  refine jg_adr _ rfl _ rfl rfl (op_move (.base rfl)) ?_
  refine jg_adr _ rfl _ rfl rfl (op_len Try.underlying22 (.base rfl)) ?_
  refine jg_adr _ rfl _ rfl rfl (op_lss (.base rfl) (.base rfl)) ?_
  refine jg_nil ?_
  refine jn_keep [0, 3, 4, 8] [] (.cons rfl (.cons rfl (.cons rfl (.cons rfl .nil)))) .nil ?_
  refine jn_seq ?_
  refine j_cond rfl (fun h3 => ?_) (fun h3 => ?_)
  · simp at h3
    have hb := grF_bd l k
    have d1 : l.getD k 0 = l[k] := getD_at h3
    have d2 : l[k]?.getD 0 = l[k] := by simp [h3]
    refine j_skip (jn_seq (j_seq (j_block (j_seq ?_))))
    have hbk : 0 ≤ grF l k → (grF l k).toNat < l.length := fun _ => by omega
    refine j_draw mo (by kernel_rfl) (
      AS.cons _ _ rfl (ga_adr rfl rfl rfl (op_move (.base rfl))) (
        AS.cons _ _ rfl (ga_adr rfl rfl rfl (op_move (.base rfl))) (
        AS.cons _ _ rfl (ga_adr rfl rfl rfl (op_index Try.underlying22 ty3 (.base rfl) (.base rfl) rfl (List.getElem?_eq_getElem (by first | omega | (simp; done) | (simp; omega) | (simp at hg; omega))))) (
        AS.cons _ _ rfl (ga_adr rfl rfl rfl (op_load ty3 (.base rfl))) (
        AS.cons _ _ rfl (ga_adr rfl rfl rfl (op_gtr (.base rfl) (.base rfl))) (
        AS.cons _ _ rfl (ga_adr rfl rfl rfl (op_move (.base rfl))) (
        AS.cons _ _ rfl (ga_gd _ _ _ _ rfl rfl rfl rfl rfl (fun hg => op_move (.base rfl))) (
        AS.cons _ _ rfl (ga_gd _ _ _ _ rfl rfl rfl rfl rfl (fun hg => op_lss (.gd rfl hg) (.base rfl))) (
        AS.cons _ _ rfl (ga_gd _ _ _ _ rfl rfl rfl rfl rfl (fun hg => op_move (.gd rfl hg))) (
        AS.cons _ _ rfl (ga_gd2 _ _ _ _ _ rfl rfl rfl rfl rfl (fun hg => op_move (.base rfl))) (
        AS.cons _ _ rfl (ga_gd2 _ _ _ _ _ rfl rfl rfl rfl rfl (fun hg => op_move (.base rfl))) (
        AS.cons _ _ rfl (ga_gd2 _ _ _ _ _ rfl rfl rfl rfl rfl (fun hg => op_index Try.underlying22 ty3 (.gd rfl hg) (.gd rfl hg) rfl (getD_some (z := (0 : Int)) (by first | omega | (simp; done) | (simp; omega) | (simp at hg; omega) | (simp at hg; simp; omega))))) (
        AS.cons _ _ rfl (ga_gd2 _ _ _ _ _ rfl rfl rfl rfl rfl (fun hg => op_load ty3 (.gd rfl hg))) (
        AS.cons _ _ rfl (ga_gd2 _ _ _ _ _ rfl rfl rfl rfl rfl (fun hg => op_move (.base rfl))) (
        AS.cons _ _ rfl (ga_gd2 _ _ _ _ _ rfl rfl rfl rfl rfl (fun hg => op_move (.base rfl))) (
        AS.cons _ _ rfl (ga_gd2 _ _ _ _ _ rfl rfl rfl rfl rfl (fun hg => op_index Try.underlying22 ty3 (.gd rfl hg) (.gd rfl hg) (Int.toNat_of_nonneg (by simp at hg; omega)).symm (getD_some (z := (0 : Int)) (by first | omega | (simp; done) | (simp; omega) | (simp at hg; omega) | (simp at hg; simp; omega))))) (
        AS.cons _ _ rfl (ga_gd2 _ _ _ _ _ rfl rfl rfl rfl rfl (fun hg => op_load ty3 (.gd rfl hg))) (
        AS.cons _ _ rfl (ga_gd2 _ _ _ _ _ rfl rfl rfl rfl rfl (fun hg => op_gtr (.gd rfl hg) (.gd rfl hg))) (
        AS.cons _ _ rfl (ga_gd _ _ _ _ rfl rfl rfl rfl rfl (fun hg => op_pick_or (.gd rfl hg) (.base rfl) rfl (by intro h; first | (rw [h]; rfl) | (rw [hg, h]; rfl) | (rw [h, hg]; rfl) | simp_all))) (
        AS.cons _ _ rfl (ga_adr rfl rfl rfl (op_pick_and (.base rfl) (.base rfl) rfl (by intro h; first | (rw [h]; rfl) | (rw [hg, h]; rfl) | (rw [h, hg]; rfl) | simp_all))) (
        AS.nil))))))))))))))))))))) ?_
    refine jn_keep [0, 3, 4, 30] [] (.cons rfl (.cons rfl (.cons rfl (.cons rfl .nil)))) .nil ?_
    refine jn_seq ?_
    refine j_cond rfl (fun h5 => ?_) (fun h5 => ?_)
    · rw [d2] at h5
      have k5 := h5
      refine j_region ?_
      refine jg_adr _ rfl _ rfl rfl (op_move (.base rfl)) ?_
      refine jg_adr _ rfl _ rfl rfl (op_assign (.base rfl)) ?_
      refine jg_nil ?_
      refine jn_keep [0, 3, 4] [] (.cons rfl (.cons rfl (.cons rfl .nil))) .nil ?_
      refine jn_blk (jn_seq ?_)
      refine j_region ?_
      refine jg_adr _ rfl _ rfl rfl (op_move (.base rfl)) ?_
      refine jg_adr _ rfl _ rfl rfl (op_add (.base rfl) (.base rfl) (w64 (by omega))) ?_
      refine jg_adr _ rfl _ rfl rfl (op_assign (.base rfl)) ?_
      refine jg_nil ?_
      refine jn_keep [0, 3, 4] [] (.cons rfl (.cons rfl (.cons rfl .nil))) .nil ?_
      exact jn_loop (fun a w hi => ⟨k + 1, (by first | omega | (simp; omega)), (by omega), (Sub.inv ⟨(by repeat (first | exact SubS_nil | refine SubS_cons rfl (by first | rfl | (refine ri ?_; simp only [grF, List.getD_eq_getElem?_getD]; rw [d2]; first | (rw [if_pos k5]; done) | (rw [if_neg k5]; done))) ?_)), (by repeat (first | exact SubH_nil | refine SubH_cons rfl (by first | rfl | (simp; done) | assumption) ?_))⟩ hi)⟩)
    · rw [d2] at h5
      have k5 := by exact (Bool.eq_false_iff.1 h5)
      refine j_skip (jn_blk (jn_seq ?_))
      refine j_region ?_
      refine jg_adr _ rfl _ rfl rfl (op_move (.base rfl)) ?_
      refine jg_adr _ rfl _ rfl rfl (op_add (.base rfl) (.base rfl) (w64 (by omega))) ?_
      refine jg_adr _ rfl _ rfl rfl (op_assign (.base rfl)) ?_
      refine jg_nil ?_
      refine jn_keep [0, 3, 4] [] (.cons rfl (.cons rfl (.cons rfl .nil))) .nil ?_
      exact jn_loop (fun a w hi => ⟨k + 1, (by first | omega | (simp; omega)), (by omega), (Sub.inv ⟨(by repeat (first | exact SubS_nil | refine SubS_cons rfl (by first | rfl | (refine ri ?_; simp only [grF, List.getD_eq_getElem?_getD]; rw [d2]; first | (rw [if_pos k5]; done) | (rw [if_neg k5]; done))) ?_)), (by repeat (first | exact SubH_nil | refine SubH_cons rfl (by first | rfl | (simp; done) | assumption) ?_))⟩ hi)⟩)
  · simp at h3
    refine j_exit (je_seq (je_loop (je_blk (jn_seq (j_seq ?_)))))
    refine j_region ?_
    refine jg_adr _ rfl _ rfl rfl (op_move (.base rfl)) ?_
    refine jg_adr _ rfl _ rfl rfl (op_assign (.base rfl)) ?_
    refine jg_nil ?_
    refine jn_keep [2] [] (.cons rfl .nil) .nil ?_
    refine jn_seq (j_ret ?_)
    exact jr_fin1 Try.results45 (res_tmp rfl) rfl (ri (by rw [show k = l.length by omega]))

end Go.Proofs.Ytfmoolclokffjaa
