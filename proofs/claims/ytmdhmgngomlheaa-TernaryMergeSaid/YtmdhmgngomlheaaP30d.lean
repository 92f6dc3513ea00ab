import Derived.Test.YtmdhmgngomlheaaP30b
namespace Go.Proofs.Ytmdhmgngomlheaa
open Go.Eng
set_option maxRecDepth 100000
set_option linter.unusedVariables false
set_option linter.unusedSimpArgs false
/-! chapter 30, plain: patterns as text -/
/-- bit i of x -/
def tb (x : Int) (i : Nat) : Bool := decide (x / 2 ^ i % 2 = 1)
theorem and1 (y : Int) : andI y 1 = y % 2 := by
  rw [andI_bv]
  have h : (bv y &&& bv 1).toNat = ((y % 2).toNat) := by
    rw [BitVec.toNat_and, show (bv 1).toNat = 1 from rfl, Nat.and_one_is_mod]
    simp only [bv, BitVec.toNat_ofInt]; omega
  rw [toInt_nat h (by omega)]; omega
theorem lt8 {i : Nat} (hi : i < 8) : i = 0 ∨ i = 1 ∨ i = 2 ∨ i = 3 ∨ i = 4 ∨ i = 5 ∨ i = 6 ∨ i = 7 := by omega
theorem shr_bit {x : Int} {i : Nat} (hi : i < 8) : andI (x.fdiv (2 ^ (min ((i : Nat) : Int).toNat IntKind.i64.bits))) 1 = if tb x i then 1 else 0 := by
  rw [and1, Int.toNat_natCast, Nat.min_eq_left (by simp [IntKind.bits]; omega), Int.fdiv_eq_ediv_of_nonneg _ (Int.pow_nonneg (by omega))]
  unfold tb
  have : x / 2 ^ i % 2 = 0 ∨ x / 2 ^ i % 2 = 1 := by omega
  rcases this with q | q <;> simp [q]
theorem bit_tb {x : Int} {i : Nat} (hi : i < 8) : (bv x).getLsbD i = tb x i := by
  unfold tb
  rw [BitVec.getLsbD, Nat.testBit_eq_decide_div_mod_eq]
  simp only [bv, BitVec.toNat_ofInt]
  rcases lt8 hi with rfl | rfl | rfl | rfl | rfl | rfl | rfl | rfl <;> (congr 1; simp only [Nat.reducePow, Int.reducePow]; apply propext; omega)
theorem bv_two {i : Nat} (hi : i < 8) : bv ((2 ^ i : Nat) : Int) = BitVec.twoPow 64 i := by
  apply BitVec.eq_of_toNat_eq
  have h2 : 2 ^ i ≤ 2 ^ 8 := Nat.pow_le_pow_right (by omega) (by omega)
  have h3 : (2 : Nat) ^ 8 = 256 := rfl
  rw [bv_nat (by omega), BitVec.toNat_twoPow, Nat.mod_eq_of_lt (by omega)]
theorem and_bit {x : Int} {i : Nat} (hi : i < 8) : (andI x ((2 ^ i : Nat) : Int) != 0) = tb x i := by
  rw [andI_bv, bv_two hi, BitVec.and_twoPow, bit_tb hi]
  cases tb x i with
  | true =>
    simp only [if_true]
    rw [bne_iff_ne]
    intro e
    exact two_ne (by omega) (bv_inj (e.trans (by rfl : (0 : Int) = (0#64).toInt)))
  | false => rfl
/-- the character of bit i -/
def chrF (p : Int × Int) (i : Nat) : UInt8 := if tb p.1 i then (if tb p.2 i then 49 else 48) else 45
def fmtF (p : Int × Int) : Nat → List UInt8
  | 0 => []
  | i + 1 => chrF p i :: fmtF p i
theorem fmtF_len (p : Int × Int) : ∀ c, (fmtF p c).length = c
  | 0 => rfl
  | c + 1 => by simp [fmtF, fmtF_len p c]
theorem fmtF_get (p : Int × Int) : ∀ c k, k < c → (fmtF p c)[k]? = some (chrF p (c - 1 - k))
  | c + 1, 0, _ => by simp [fmtF]
  | c + 1, k + 1, h => by
    simp only [fmtF, List.getElem?_cons_succ]
    rw [fmtF_get p c k (by omega)]
    congr 2; omega
theorem fmtF_take (p : Int × Int) (c k : Nat) (h : k < c) : (fmtF p c).take (k + 1) = (fmtF p c).take k ++ [chrF p (c - 1 - k)] := by
  rw [List.take_add_one, fmtF_get p c k h]; rfl
/-- reading -/
def okC (b : UInt8) : Bool := b == 48 || b == 49 || b == 45
def maskN (l : List UInt8) : Nat := l.foldl (fun m b => 2 * m + if b = 45 then 0 else 1) 0
def bitsN (l : List UInt8) : Nat := l.foldl (fun m b => 2 * m + if b = 49 then 1 else 0) 0
def parseF (s : List UInt8) : (Int × Int) × Int × Int :=
  if s.length > 8 then ((0, 0), 0, 4) else if s.all okC = true then (((maskN s : Nat), (bitsN s : Nat)), (s.length : Int), 0) else ((0, 0), 0, 2)
theorem maskN_snoc (l : List UInt8) (b : UInt8) : maskN (l ++ [b]) = 2 * maskN l + if b = 45 then 0 else 1 := by simp [maskN, List.foldl_append]
theorem bitsN_snoc (l : List UInt8) (b : UInt8) : bitsN (l ++ [b]) = 2 * bitsN l + if b = 49 then 1 else 0 := by simp [bitsN, List.foldl_append]
theorem fold_lt (g : UInt8 → Nat) (hg : ∀ b, g b ≤ 1) : ∀ (l : List UInt8) (m k : Nat), m < 2 ^ k → l.foldl (fun m b => 2 * m + g b) m < 2 ^ (k + l.length)
  | [], m, k, h => h
  | b :: r, m, k, h => by
    have h1 := hg b
    have := fold_lt g hg r (2 * m + g b) (k + 1) (by rw [Nat.pow_succ]; omega)
    rw [show k + 1 + r.length = k + (b :: r).length by simp; omega] at this
    exact this
theorem maskN_lt (l : List UInt8) : maskN l < 2 ^ l.length := by
  have := fold_lt (fun b => if b = 45 then 0 else 1) (fun b => by split <;> omega) l 0 0 (by omega)
  rwa [Nat.zero_add] at this
theorem bitsN_lt (l : List UInt8) : bitsN l < 2 ^ l.length := by
  have := fold_lt (fun b => if b = 49 then 1 else 0) (fun b => by split <;> omega) l 0 0 (by omega)
  rwa [Nat.zero_add] at this
theorem or1 {m : Nat} (h : m < 4294967296) : orI ((2 * m : Nat) : Int) 1 = ((2 * m + 1 : Nat) : Int) := by
  have := orI_nat (n := 2 * m) (m := 1) (by omega) (by omega)
  rw [show ((1 : Nat) : Int) = 1 from rfl] at this
  rw [this]
  congr 1
  have := Nat.two_pow_add_eq_or_of_lt (i := 1) (b := 1) (by omega) m
  simpa using this.symm
theorem take_snoc {s : List UInt8} {k : Nat} (h : k < s.length) : s.take (k + 1) = s.take k ++ [s[k]] := List.take_succ_eq_append_getElem h
theorem wu8 {n : Int} (h : 0 ≤ n ∧ n ≤ 255) : IntKind.u8.wrap n = n := by
  simp [IntKind.wrap, IntKind.signed, IntKind.bits]; omega
end Go.Proofs.Ytmdhmgngomlheaa
