import Derived.Test.YtmdhmgngomlheaaP30p
import Derived.Test.YtmdhmgngomlheaaEngF
namespace Go.Proofs.Ytmdhmgngomlheaa
open Go.Eng
set_option maxRecDepth 100000
set_option linter.unusedVariables false
set_option linter.unusedSimpArgs false
/-! chapter 30, plain: words of 64 bits -/
abbrev bv (x : Int) : BitVec 64 := BitVec.ofInt 64 x
abbrev InW (x : Int) : Prop := -9223372036854775808 ≤ x ∧ x ≤ 9223372036854775807
theorem wrap_bv (b : BitVec 64) : IntKind.i64.wrap (b.toNat : Int) = b.toInt := by
  have h := b.isLt
  rw [IntKind.wrap_i64, BitVec.toInt_eq_toNat_cond]
  split <;> omega
theorem bv_wrap (x : Int) : bv (IntKind.i64.wrap x) = bv x := by
  apply BitVec.eq_of_toNat_eq
  simp only [bv, BitVec.toNat_ofInt, IntKind.wrap_i64]
  congr 1; omega
theorem bv_toInt (b : BitVec 64) : bv b.toInt = b := by simp [bv]
theorem toInt_bv {x : Int} (h : InW x) : (bv x).toInt = x := by
  simp only [bv, BitVec.toInt_ofInt]
  rw [Int.bmod_def]; split <;> omega
theorem toInt_in (b : BitVec 64) : InW b.toInt := by
  have h := b.isLt
  rw [BitVec.toInt_eq_toNat_cond]
  split <;> constructor <;> omega
abbrev andI (x y : Int) : Int := bI .and .i64 x y
abbrev orI (x y : Int) : Int := bI .or .i64 x y
abbrev xorI (x y : Int) : Int := bI .xor .i64 x y
abbrev anI (x y : Int) : Int := bI .andNot .i64 x y
theorem andI_bv (x y : Int) : andI x y = (bv x &&& bv y).toInt := wrap_bv _
theorem orI_bv (x y : Int) : orI x y = (bv x ||| bv y).toInt := wrap_bv _
theorem xorI_bv (x y : Int) : xorI x y = (bv x ^^^ bv y).toInt := wrap_bv _
theorem anI_bv (x y : Int) : anI x y = (bv x &&& ~~~ bv y).toInt := wrap_bv _
theorem conv_u (x : Int) : IntKind.u64.wrap x = ((bv x).toNat : Int) := by
  simp only [bv, BitVec.toNat_ofInt, IntKind.wrap_u64]; omega
theorem and_nat {n m : Nat} (hn : n < 18446744073709551616) (hm : m < 18446744073709551616) : bI .and .u64 (n : Int) (m : Int) = ((n &&& m : Nat) : Int) := by
  unfold bI
  rw [show IntKind.u64.bits = 64 from rfl]
  simp only [BitVec.toNat_and]
  rw [bv64 hn, bv64 hm]
  exact wu (Nat.lt_of_le_of_lt Nat.and_le_left hn)
/-- natural numbers below 2^63 -/
theorem bv_nat {n : Nat} (h : n < 9223372036854775808) : (bv (n : Int)).toNat = n := bv64 (by omega)
theorem toInt_nat {b : BitVec 64} {n : Nat} (h : b.toNat = n) (hn : n < 9223372036854775808) : b.toInt = (n : Int) := by
  rw [BitVec.toInt_eq_toNat_cond, h, if_pos (by omega)]
theorem andI_nat {n m : Nat} (hn : n < 9223372036854775808) (hm : m < 9223372036854775808) : andI (n : Int) (m : Int) = ((n &&& m : Nat) : Int) := by
  rw [andI_bv]
  exact toInt_nat (by rw [BitVec.toNat_and, bv_nat hn, bv_nat hm]) (Nat.lt_of_le_of_lt Nat.and_le_left hn)
theorem two63 {n : Nat} (h : n < 9223372036854775808) : n < 2 ^ 63 := h
theorem orI_nat {n m : Nat} (hn : n < 9223372036854775808) (hm : m < 9223372036854775808) : orI (n : Int) (m : Int) = ((n ||| m : Nat) : Int) := by
  rw [orI_bv]
  exact toInt_nat (by rw [BitVec.toNat_or, bv_nat hn, bv_nat hm]) (Nat.or_lt_two_pow (two63 hn) (two63 hm))
theorem xorI_nat {n m : Nat} (hn : n < 9223372036854775808) (hm : m < 9223372036854775808) : xorI (n : Int) (m : Int) = ((n ^^^ m : Nat) : Int) := by
  rw [xorI_bv]
  exact toInt_nat (by rw [BitVec.toNat_xor, bv_nat hn, bv_nat hm]) (Nat.xor_lt_two_pow (two63 hn) (two63 hm))
/-- n without the bits of m -/
def anN (n m : Nat) : Nat := n ^^^ (n &&& m)
theorem anN_bit (n m i : Nat) : (anN n m).testBit i = (n.testBit i && !m.testBit i) := by
  unfold anN; rw [Nat.testBit_xor, Nat.testBit_and]; cases n.testBit i <;> cases m.testBit i <;> rfl
theorem anN_le (n m : Nat) : anN n m ≤ n := by
  apply Nat.le_of_testBit
  intro i h
  rw [anN_bit] at h; simp at h; exact h.1
theorem anI_nat {n m : Nat} (hn : n < 9223372036854775808) (hm : m < 9223372036854775808) : anI (n : Int) (m : Int) = ((anN n m : Nat) : Int) := by
  rw [anI_bv]
  refine toInt_nat (Nat.eq_of_testBit_eq fun i => ?_) (Nat.lt_of_le_of_lt (anN_le n m) hn)
  rw [anN_bit, ← BitVec.getLsbD, BitVec.getLsbD_and, BitVec.getLsbD_not, BitVec.getLsbD, BitVec.getLsbD, bv_nat hn, bv_nat hm]
  by_cases hi : i < 64
  · simp [hi]
  · have : n.testBit i = false := Nat.testBit_lt_two_pow (Nat.lt_of_lt_of_le (two63 hn) (Nat.pow_le_pow_right (by omega) (by omega)))
    simp [this]
/-- one bit just -/
theorem pow2_iff (X : Nat) (hX : X < 2 ^ 64) : (X ≠ 0 ∧ X &&& (X - 1) = 0) ↔ ∃ i, i < 64 ∧ X = 2 ^ i := by
  constructor
  · rintro ⟨h0, h1⟩
    refine ⟨X.log2, (Nat.log2_lt h0).2 hX, ?_⟩
    have h2 : 2 ^ X.log2 ≤ X := Nat.log2_self_le h0
    rcases Nat.lt_or_ge (2 ^ X.log2) X with h3 | h3
    · exfalso
      have hb : ∀ y, 2 ^ X.log2 ≤ y → y < 2 ^ (X.log2 + 1) → y.testBit X.log2 = true := fun y g1 g2 => by
        rw [Nat.testBit_eq_decide_div_mod_eq]
        have : y / 2 ^ X.log2 = 1 := by rw [Nat.pow_succ] at g2; exact Nat.div_eq_of_lt_le (by omega) (by omega)
        simp [this]
      have g := Nat.lt_log2_self (n := X)
      have e1 := hb X h2 g
      have e2 := hb (X - 1) (by omega) (by omega)
      have := Nat.testBit_and X (X - 1) X.log2
      rw [h1, e1, e2] at this
      simp at this
    · omega
  · rintro ⟨i, hi, rfl⟩
    refine ⟨Nat.ne_of_gt (Nat.two_pow_pos i), ?_⟩
    rw [Nat.and_two_pow_sub_one_eq_mod, Nat.mod_self]
def powI (x : Int) : Bool := (x != 0) && (andI x (IntKind.i64.wrap (x - 1)) == 0)
def cntI (x : Int) : Nat := popN 64 (bv x).toNat
theorem bv_zero {x : Int} (h : InW x) : (bv x).toNat = 0 ↔ x = 0 := by
  constructor
  · intro h0
    rw [← toInt_bv h, BitVec.toInt_eq_toNat_cond, h0]; simp
  · rintro rfl; rfl
theorem pow_cnt {x : Int} (h : InW x) : powI x = true ↔ cntI x = 1 := by
  have hX := (bv x).isLt
  unfold cntI
  rw [popN_one 64 _ hX, ← pow2_iff _ hX]
  unfold powI
  rw [Bool.and_eq_true, bne_iff_ne, beq_iff_eq, andI_bv, bv_wrap]
  rw [show bv (x - 1) = bv x - 1#64 from by
    apply BitVec.eq_of_toNat_eq
    simp only [bv, BitVec.toNat_sub, BitVec.toNat_ofInt, BitVec.toNat_ofNat]
    omega]
  constructor
  · rintro ⟨h0, h1⟩
    have h0' : (bv x).toNat ≠ 0 := fun e => h0 ((bv_zero h).1 e)
    refine ⟨h0', ?_⟩
    have h2 : (bv x &&& (bv x - 1#64)) = 0#64 := by rw [← bv_toInt (bv x &&& (bv x - 1#64)), h1]; rfl
    have h3 := congrArg BitVec.toNat h2
    rw [BitVec.toNat_and, BitVec.toNat_sub] at h3
    have h4 : (2 ^ 64 - (1#64).toNat + (bv x).toNat) % 2 ^ 64 = (bv x).toNat - 1 := by
      have : (1#64).toNat = 1 := rfl
      omega
    rw [h4] at h3; simpa using h3
  · rintro ⟨h0, h1⟩
    refine ⟨fun e => h0 ((bv_zero h).2 e), ?_⟩
    have h4 : (2 ^ 64 - (1#64).toNat + (bv x).toNat) % 2 ^ 64 = (bv x).toNat - 1 := by
      have : (1#64).toNat = 1 := rfl
      omega
    have : (bv x &&& (bv x - 1#64)) = 0#64 := by
      apply BitVec.eq_of_toNat_eq
      rw [BitVec.toNat_and, BitVec.toNat_sub, h4, h1]; rfl
    rw [this]; rfl
theorem cnt_two {x : Int} (h : cntI x = 1) : ∃ i, i < 64 ∧ bv x = BitVec.twoPow 64 i := by
  obtain ⟨i, hi, hx⟩ := (popN_one 64 _ (bv x).isLt).1 h
  exact ⟨i, hi, BitVec.eq_of_toNat_eq (by rw [hx, BitVec.toNat_twoPow, Nat.mod_eq_of_lt (Nat.pow_lt_pow_right (by omega) hi)])⟩
theorem two_ne {i : Nat} (hi : i < 64) : BitVec.twoPow 64 i ≠ 0#64 := fun e => by
  have := congrArg BitVec.toNat e
  rw [BitVec.toNat_twoPow, Nat.mod_eq_of_lt (Nat.pow_lt_pow_right (by omega) hi)] at this
  have := Nat.two_pow_pos i
  simp at *
theorem bv_inj {b c : BitVec 64} (h : b.toInt = c.toInt) : b = c := by rw [← bv_toInt b, h, bv_toInt]
/-- a bit is in a mask, or not -/
theorem and_pow {d m : Int} (hd : InW d) (h : cntI d = 1) : (andI d m = 0 ↔ andI m d ≠ d) ∧ (andI m d = d ↔ andI d m = d) := by
  obtain ⟨i, hi, e⟩ := cnt_two h
  have e1 : andI d m = (if (bv m).getLsbD i then BitVec.twoPow 64 i else 0#64).toInt := by
    rw [andI_bv, BitVec.and_comm, e, BitVec.and_twoPow]
  have e2 : andI m d = (if (bv m).getLsbD i then BitVec.twoPow 64 i else 0#64).toInt := by
    rw [andI_bv, e, BitVec.and_twoPow]
  have ed : d = (BitVec.twoPow 64 i).toInt := by rw [← e, toInt_bv hd]
  refine ⟨?_, by rw [e1, e2]⟩
  rw [e1, e2]
  by_cases q : (bv m).getLsbD i = true
  · simp only [q, if_true]
    constructor
    · intro h0; exact absurd (bv_inj (h0.trans (by rfl : (0 : Int) = (0#64).toInt))) (two_ne hi)
    · intro h0; exact absurd ed.symm h0
  · simp only [q, if_false]
    constructor
    · intro _ h0; exact two_ne hi (bv_inj (by rw [← ed, ← h0]; rfl))
    · intro _; rfl
/-- two patterns that differ in one bit -/
def mergeF (a b : Int × Int) : (Int × Int) × Bool :=
  if a.1 ≠ b.1 ∨ cntI (xorI a.2 b.2) ≠ 1 ∨ andI (xorI a.2 b.2) a.1 = 0 then ((0, 0), false) else ((anI a.1 (xorI a.2 b.2), anI a.2 (xorI a.2 b.2)), true)
theorem xorI_in (x y : Int) : InW (xorI x y) := by rw [xorI_bv]; exact toInt_in _
theorem merge_ref (a b : Int × Int) : (a.1 ≠ b.1 ∨ powI (xorI a.2 b.2) = false ∨ andI a.1 (xorI a.2 b.2) ≠ xorI a.2 b.2) ↔ (a.1 ≠ b.1 ∨ cntI (xorI a.2 b.2) ≠ 1 ∨ andI (xorI a.2 b.2) a.1 = 0) := by
  have h := pow_cnt (xorI_in a.2 b.2)
  by_cases h1 : a.1 = b.1 <;> by_cases h2 : cntI (xorI a.2 b.2) = 1
  · have h3 := h.2 h2
    have h4 := (and_pow (m := a.1) (xorI_in a.2 b.2) h2).1
    simp only [h1, h2, h3] at *
    simp [h4]
  · have h3 : powI (xorI a.2 b.2) = false := by cases q : powI (xorI a.2 b.2) with | false => rfl | true => exact absurd (h.1 q) h2
    simp [h1, h2, h3]
  · simp [h1]
  · simp [h1]
end Go.Proofs.Ytmdhmgngomlheaa
