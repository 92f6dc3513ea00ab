import Derived.Test.YtmdhmgngomlheaaP30o
namespace Go.Proofs.Ytmdhmgngomlheaa
open Go.Eng
set_option maxRecDepth 100000
set_option linter.unusedVariables false
set_option linter.unusedSimpArgs false
/-! chapter 30, plain: the laws -/
theorem xor_f {p q : Bool} (h : (p ^^ q) = false) : p = q := by cases p <;> cases q <;> first | rfl | cases h
theorem xor_t {p q : Bool} (h : (p ^^ q) = true) : p = !q := by cases p <;> cases q <;> first | rfl | cases h
theorem ne_not {x p q : Bool} (h : ¬ x = p) (h2 : p = !q) : x = q := by cases x <;> cases p <;> cases q <;> first | rfl | exact absurd rfl h | cases h2
theorem merge_law {a b p : Int × Int} (ha : InW a.2) (hb : InW b.2) (h : mergeF a b = (p, true)) (x : Int) : matchI p x = (matchI a x || matchI b x) := by
  unfold mergeF at h
  split at h
  · simp at h
  · rename_i hc
    simp only [not_or, Decidable.not_not] at hc
    obtain ⟨h1, h2, h3⟩ := hc
    have h := (Prod.mk.inj h).1
    subst h
    obtain ⟨i, hi, hd⟩ := cnt_two h2
    have hx : bv (xorI a.2 b.2) = bv a.2 ^^^ bv b.2 := by rw [xorI_bv, bv_toInt]
    rw [hx] at hd
    have hbit : ∀ j, j < 64 → ((bv a.2).getLsbD j ^^ (bv b.2).getLsbD j) = decide (i = j) := fun j hj => by
      rw [← BitVec.getLsbD_xor, hd, BitVec.getLsbD_twoPow, decide_eq_true hi, Bool.true_and]
    have hm : (bv a.1).getLsbD i = true := by
      cases q : (bv a.1).getLsbD i with
      | true => rfl
      | false =>
        exfalso; apply h3
        rw [andI_bv, hx, hd, BitVec.and_comm, BitVec.and_twoPow, q]; rfl
    have key : ∀ (m s : BitVec 64) (y : Int), InW y → s = bv y → ((bv x &&& m).toInt = y ↔ ∀ j, j < 64 → ((bv x).getLsbD j && m.getLsbD j) = s.getLsbD j) := fun m s y hy hs => by
      subst hs
      constructor
      · intro e j hj
        rw [← BitVec.getLsbD_and, ← bv_toInt (bv x &&& m), e]
      · intro e
        exact (congrArg BitVec.toInt (BitVec.eq_of_getLsbD_eq fun j hj => by rw [BitVec.getLsbD_and]; exact e j hj)).trans (toInt_bv hy)
    have hp1 : bv (anI a.1 (xorI a.2 b.2)) = bv a.1 &&& ~~~BitVec.twoPow 64 i := by rw [anI_bv a.1 (xorI a.2 b.2), bv_toInt, hx, hd]
    have hp2 : anI a.2 (xorI a.2 b.2) = (bv a.2 &&& ~~~BitVec.twoPow 64 i).toInt := by rw [anI_bv a.2 (xorI a.2 b.2), hx, hd]
    generalize anI a.1 (xorI a.2 b.2) = pm at hp1 ⊢
    generalize anI a.2 (xorI a.2 b.2) = pb at hp2 ⊢
    clear h2 h3 hx hd
    have e1 : (matchI (pm, pb) x = true) ↔ ∀ j, j < 64 → j ≠ i → ((bv x).getLsbD j && (bv a.1).getLsbD j) = (bv a.2).getLsbD j := by
      unfold matchI
      rw [beq_iff_eq, andI_bv x pm, hp1, hp2]
      rw [key _ (bv a.2 &&& ~~~BitVec.twoPow 64 i) _ (toInt_in _) (bv_toInt _).symm]
      constructor
      · intro e j hj hne
        have := e j hj
        simp only [BitVec.getLsbD_and, BitVec.getLsbD_not, BitVec.getLsbD_twoPow, hj, hi, decide_true, Bool.true_and] at this
        rw [show decide (i = j) = false by simp; omega] at this
        simpa using this
      · intro e j hj
        simp only [BitVec.getLsbD_and, BitVec.getLsbD_not, BitVec.getLsbD_twoPow, hj, hi, decide_true, Bool.true_and]
        by_cases hne : i = j
        · simp [hne]
        · have := e j hj (fun q => hne q.symm)
          simp [hne, this]
    have e2 : ∀ y : Int × Int, InW y.2 → y.1 = a.1 → ((matchI y x = true) ↔ ∀ j, j < 64 → ((bv x).getLsbD j && (bv a.1).getLsbD j) = (bv y.2).getLsbD j) := fun y hy he => by
      unfold matchI
      rw [beq_iff_eq, andI_bv x y.1, he]
      exact key _ (bv y.2) _ hy rfl
    have e3 := e2 a ha rfl
    have e4 := e2 b hb h1.symm
    have hab : ∀ j, j < 64 → j ≠ i → (bv a.2).getLsbD j = (bv b.2).getLsbD j := fun j hj hne => by
      have := hbit j hj
      rw [show decide (i = j) = false by simp; omega] at this
      exact xor_f this
    have hai : (bv a.2).getLsbD i = !(bv b.2).getLsbD i := by
      have := hbit i hi
      rw [decide_eq_true rfl] at this
      exact xor_t this
    rw [Bool.eq_iff_iff, Bool.or_eq_true, e1, e3, e4]
    constructor
    · intro e
      by_cases hxi : (bv x).getLsbD i = (bv a.2).getLsbD i
      · left; intro j hj
        by_cases hne : j = i
        · subst hne; rw [hm, Bool.and_true]; exact hxi
        · exact e j hj hne
      · right; intro j hj
        by_cases hne : j = i
        · subst hne; rw [hm, Bool.and_true]
          exact ne_not hxi hai
        · rw [← hab j hj hne]; exact e j hj hne
    · rintro (e | e) j hj hne
      · exact e j hj
      · rw [hab j hj hne]; exact e j hj
/-! text and back -/
theorem foldl_val (g : UInt8 → Nat) : ∀ (l : List UInt8) (m : Nat), l.foldl (fun m b => 2 * m + g b) m = m * 2 ^ l.length + l.foldl (fun m b => 2 * m + g b) 0
  | [], m => by simp
  | b :: r, m => by
    simp only [List.foldl_cons, List.length_cons]
    rw [foldl_val g r (2 * m + g b), foldl_val g r (2 * 0 + g b), Nat.pow_succ]
    simp only [Nat.mul_zero, Nat.zero_add, Nat.add_mul]
    rw [show 2 * m * 2 ^ r.length = m * (2 ^ r.length * 2) by rw [Nat.mul_comm 2 m, Nat.mul_assoc, Nat.mul_comm 2]]; omega
theorem tb_nat {M i : Nat} : tb (M : Int) i = M.testBit i := by
  unfold tb
  rw [Nat.testBit_eq_decide_div_mod_eq]
  have : ((M : Int) / 2 ^ i % 2) = ((M / 2 ^ i % 2 : Nat) : Int) := by simp
  rw [this]; exact decide_eq_decide.2 (by omega)
theorem mod_succ (M c : Nat) : M % 2 ^ (c + 1) = (if M.testBit c then 1 else 0) * 2 ^ c + M % 2 ^ c := by
  rw [Nat.testBit_eq_decide_div_mod_eq, Nat.mod_pow_succ]
  have : M / 2 ^ c % 2 = 0 ∨ M / 2 ^ c % 2 = 1 := by omega
  rcases this with q | q <;> simp [q] <;> omega
theorem fmt_mask (M B : Nat) : ∀ c, maskN (fmtF ((M : Int), (B : Int)) c) = M % 2 ^ c
  | 0 => by simp [fmtF, maskN, Nat.mod_one]
  | c + 1 => by
    have ih := fmt_mask M B c
    unfold maskN at ih ⊢
    rw [fmtF, List.foldl_cons, foldl_val, ih, fmtF_len, mod_succ]
    congr 2
    unfold chrF
    simp only [tb_nat]
    cases M.testBit c <;> cases B.testBit c <;> simp
theorem fmt_bits (M B : Nat) (h : ∀ i, B.testBit i = true → M.testBit i = true) : ∀ c, bitsN (fmtF ((M : Int), (B : Int)) c) = B % 2 ^ c
  | 0 => by simp [fmtF, bitsN, Nat.mod_one]
  | c + 1 => by
    have ih := fmt_bits M B h c
    unfold bitsN at ih ⊢
    rw [fmtF, List.foldl_cons, foldl_val, ih, fmtF_len, mod_succ]
    congr 2
    have hc := h c
    unfold chrF
    simp only [tb_nat]
    cases h1 : M.testBit c <;> cases h2 : B.testBit c <;> simp_all
theorem chr_ok (p : Int × Int) (i : Nat) : okC (chrF p i) = true := by unfold chrF; split; split <;> rfl; rfl
theorem fmt_ok (p : Int × Int) : ∀ c, (fmtF p c).all okC = true
  | 0 => rfl
  | c + 1 => by rw [fmtF, List.all_cons, chr_ok, fmt_ok p c]; rfl
theorem valid_nat {a : Int × Int} {n : Int} (h : validF a n = true) : ∃ M B : Nat, a = ((M : Int), (B : Int)) ∧ M < 2 ^ clampF n ∧ M < 256 ∧ B &&& M = B := by
  unfold validF at h
  simp only [Bool.and_eq_true, decide_eq_true_eq, beq_iff_eq] at h
  obtain ⟨⟨⟨h1, h2⟩, h3⟩, h4⟩ := h
  have h8 : 2 ^ clampF n ≤ 2 ^ 8 := Nat.pow_le_pow_right (by omega) (clampF_le n)
  rw [show (2 : Nat) ^ 8 = 256 from rfl] at h8
  obtain ⟨x, y⟩ := a
  simp only at h1 h2 h3 h4
  obtain ⟨M, rfl⟩ := Int.eq_ofNat_of_zero_le h1
  obtain ⟨B, rfl⟩ := Int.eq_ofNat_of_zero_le h3
  have hM : M < 2 ^ clampF n := by exact_mod_cast h2
  refine ⟨M, B, rfl, hM, by omega, ?_⟩
  rw [andI_bv] at h4
  have h5 : (bv (B : Int) &&& bv (M : Int)).toNat = B := by
    have h6 := (bv (B : Int) &&& bv (M : Int)).isLt
    have h7 : (bv (B : Int) &&& bv (M : Int)).toNat ≤ M := by
      rw [BitVec.toNat_and, bv_nat (n := M) (by omega)]; exact Nat.and_le_right
    rw [BitVec.toInt_eq_toNat_cond, if_pos (by omega)] at h4
    omega
  have hB : B < 9223372036854775808 := by
    have h7 : (bv (B : Int) &&& bv (M : Int)).toNat ≤ M := by
      rw [BitVec.toNat_and, bv_nat (n := M) (by omega)]; exact Nat.and_le_right
    omega
  rw [BitVec.toNat_and, bv_nat hB, bv_nat (by omega)] at h5
  exact h5
theorem parse_fmt {a : Int × Int} {n : Int} (h : validF a n = true) (h0 : 0 ≤ n) (h8 : n ≤ 8) : parseF (fmtF a (clampF n)) = (a, n, 0) := by
  obtain ⟨M, B, rfl, h1, h2, h3⟩ := valid_nat h
  have hb : ∀ i, B.testBit i = true → M.testBit i = true := fun i hi => by
    have := Nat.testBit_and B M i
    rw [h3, hi] at this; simpa using this.symm
  have hB : B < 2 ^ clampF n := by rw [← h3]; exact Nat.lt_of_le_of_lt Nat.and_le_right h1
  have hc : clampF n = n.toNat := by unfold clampF; rw [if_neg (by omega), if_neg (by omega)]
  unfold parseF
  rw [if_neg (by rw [fmtF_len]; have := clampF_le n; omega), if_pos (fmt_ok _ _), fmt_mask, fmt_bits M B hb, fmtF_len, Nat.mod_eq_of_lt h1, Nat.mod_eq_of_lt hB, hc]
  rw [show ((n.toNat : Nat) : Int) = n by omega]
theorem mask_cons (b : UInt8) (r : List UInt8) : maskN (b :: r) = (if b = 45 then 0 else 1) * 2 ^ r.length + maskN r := by
  unfold maskN; rw [List.foldl_cons, foldl_val]; simp
theorem bits_cons (b : UInt8) (r : List UInt8) : bitsN (b :: r) = (if b = 49 then 1 else 0) * 2 ^ r.length + bitsN r := by
  unfold bitsN; rw [List.foldl_cons, foldl_val]; simp
theorem bit_top {t x k : Nat} (ht : t ≤ 1) (hx : x < 2 ^ k) : (t * 2 ^ k + x).testBit k = decide (t = 1) := by
  rw [Nat.mul_comm, Nat.testBit_two_pow_mul_add _ hx]
  simp
  have : t = 0 ∨ t = 1 := by omega
  rcases this with q | q <;> subst q <;> rfl
theorem bit_low {t x k i : Nat} (hx : x < 2 ^ k) (hi : i < k) : (t * 2 ^ k + x).testBit i = x.testBit i := by
  rw [Nat.mul_comm, Nat.testBit_two_pow_mul_add _ hx, if_pos hi]
theorem fmt_low {M B M' B' : Nat} : ∀ c, (∀ i, i < c → M.testBit i = M'.testBit i ∧ B.testBit i = B'.testBit i) → fmtF ((M : Int), (B : Int)) c = fmtF ((M' : Int), (B' : Int)) c
  | 0, _ => rfl
  | c + 1, h => by
    rw [fmtF, fmtF, fmt_low c (fun i hi => h i (by omega))]
    congr 1
    unfold chrF
    simp only [tb_nat]
    rw [(h c (by omega)).1, (h c (by omega)).2]
theorem okC_iff {b : UInt8} : okC b = true ↔ b = 48 ∨ b = 49 ∨ b = 45 := by unfold okC; simp [or_assoc]
theorem fmt_parse : ∀ s : List UInt8, s.all okC = true → fmtF (((maskN s : Nat) : Int), ((bitsN s : Nat) : Int)) s.length = s ∧ (∀ i, (bitsN s).testBit i = true → (maskN s).testBit i = true)
  | [], _ => ⟨rfl, fun i hi => by simp [bitsN] at hi⟩
  | b :: r, h => by
    rw [List.all_cons, Bool.and_eq_true] at h
    obtain ⟨ih1, ih2⟩ := fmt_parse r h.2
    have hm := maskN_lt r
    have hb := bitsN_lt r
    have hok := okC_iff.1 h.1
    constructor
    · rw [List.length_cons, fmtF]
      congr 1
      · unfold chrF
        simp only [tb_nat]
        rw [mask_cons, bits_cons, bit_top (by split <;> omega) hm, bit_top (by split <;> omega) hb]
        rcases hok with rfl | rfl | rfl <;> rfl
      · rw [fmt_low (M' := maskN r) (B' := bitsN r) r.length (fun i hi => ⟨by rw [mask_cons, bit_low hm hi], by rw [bits_cons, bit_low hb hi]⟩)]
        exact ih1
    · intro i hi
      rw [mask_cons]; rw [bits_cons] at hi
      rcases Nat.lt_trichotomy i r.length with q | q | q
      · rw [bit_low hm q]; rw [bit_low hb q] at hi; exact ih2 i hi
      · subst q
        rw [bit_top (by split <;> omega) hm]; rw [bit_top (by split <;> omega) hb] at hi
        rcases hok with rfl | rfl | rfl <;> simp_all
      · exfalso
        have hlt : (if b = 49 then 1 else 0) * 2 ^ r.length + bitsN r < 2 ^ (r.length + 1) := by
          rw [Nat.pow_succ]; split <;> omega
        rw [Nat.testBit_lt_two_pow (Nat.lt_of_lt_of_le hlt (Nat.pow_le_pow_right (by omega) q))] at hi
        cases hi
theorem clampF_small {k : Nat} (h : k ≤ 8) : clampF (k : Int) = k := by
  unfold clampF; rw [if_neg (by omega)]; split <;> omega
theorem parse_law {s : List UInt8} (h : (parseF s).2.2 = 0) : fmtF (parseF s).1 (clampF (parseF s).2.1) = s ∧ validF (parseF s).1 (parseF s).2.1 = true := by
  unfold parseF at h ⊢
  split at h
  · simp at h
  · split at h
    · rename_i h1 h2
      rw [if_neg h1, if_pos h2]
      simp only
      obtain ⟨e1, e2⟩ := fmt_parse s h2
      have hm := maskN_lt s
      have hb := bitsN_lt s
      rw [clampF_small (by omega)]
      refine ⟨e1, ?_⟩
      have h8 : 2 ^ s.length ≤ 2 ^ 8 := Nat.pow_le_pow_right (by omega) (by omega)
      rw [show (2 : Nat) ^ 8 = 256 from rfl] at h8
      unfold validF
      simp only
      rw [clampF_small (by omega), andI_nat (by omega) (by omega)]
      simp only [Bool.and_eq_true, decide_eq_true_eq, beq_iff_eq]
      refine ⟨⟨⟨by omega, by exact_mod_cast hm⟩, by omega⟩, ?_⟩
      congr 1
      exact Nat.eq_of_testBit_eq fun i => by
        rw [Nat.testBit_and]
        cases q : (bitsN s).testBit i with
        | false => rfl
        | true => rw [e2 i q]; rfl
    · simp at h
end Go.Proofs.Ytmdhmgngomlheaa
