namespace Go.Eng
/-! the long division of bits.Div64, in natural numbers -/
section
variable {y a b u t q r : Nat}
/-- y = a * 2^32 + b; T = u * 2^32 + t -/
theorem dv_expand (hy : y = a * 4294967296 + b) (q : Nat) : q * y = q * a * 4294967296 + q * b := by
  subst hy; rw [Nat.mul_add, Nat.mul_assoc]
theorem dv_lt (hu : u < y) (ht : t < 4294967296) : (u * 4294967296 + t) / y < 4294967296 := by
  rw [Nat.div_lt_iff_lt_mul (by omega)]
  have : (u + 1) * 4294967296 ≤ y * 4294967296 := Nat.mul_le_mul_right _ hu
  rw [Nat.mul_comm 4294967296 y]; omega
theorem dv_start (hy : y = a * 4294967296 + b) (hb : b < 4294967296) (ha : 2147483648 ≤ a) (hu : u < y) (ht : t < 4294967296) :
    u / a * a + u % a = u ∧ (u * 4294967296 + t) / y ≤ u / a ∧ u % a < a ∧ u / a ≤ 4294967297 := by
  have h1 : u / a * a + u % a = u := Nat.div_add_mod' u a
  have hm : u % a < a := Nat.mod_lt _ (by omega)
  refine ⟨h1, ?_, hm, ?_⟩
  · rw [Nat.le_div_iff_mul_le (by omega)]
    have h2 : (u * 4294967296 + t) / y * y ≤ u * 4294967296 + t := Nat.div_mul_le_self _ _
    rw [dv_expand hy] at h2
    generalize (u * 4294967296 + t) / y * a = p at h2 ⊢
    omega
  · have h3 : u / a < 4294967298 := by
      rw [Nat.div_lt_iff_lt_mul (by omega)]
      subst hy; omega
    omega
theorem dv_true (hy : y = a * 4294967296 + b) (hu : u < y) (ht : t < 4294967296) (hi : q * a + r = u) (hc : 4294967296 ≤ q ∨ 4294967296 * r + t < q * b) : (u * 4294967296 + t) / y < q := by
  rcases hc with hc | hc
  · exact Nat.lt_of_lt_of_le (dv_lt hu ht) hc
  · rw [Nat.div_lt_iff_lt_mul (by omega), dv_expand hy]
    subst hi
    generalize q * a = p at *
    generalize q * b = s at *
    omega
theorem dv_le (hy : y = a * 4294967296 + b) (h0 : 0 < y) (hi : q * a + r = u) (hc : q * b ≤ 4294967296 * r + t) : q ≤ (u * 4294967296 + t) / y := by
  rw [Nat.le_div_iff_mul_le h0, dv_expand hy]
  subst hi
  generalize q * a = p at *
  generalize q * b = s at *
  omega
theorem dv_brk (hy : y = a * 4294967296 + b) (h0 : 0 < y) (hb : b < 4294967296) (hi : q * a + r = u) (hq : q ≤ 4294967296) (hr : 4294967296 ≤ r) : q ≤ (u * 4294967296 + t) / y := by
  refine dv_le hy h0 hi ?_
  have h1 : q * b ≤ 4294967296 * 4294967295 := Nat.mul_le_mul hq (by omega)
  omega
theorem dv_prod (hb : b < 4294967296) (hq : q ≤ 4294967297) : q * b < 18446744073709551616 := by
  have h1 : q * b ≤ 4294967297 * 4294967295 := Nat.mul_le_mul hq (by omega)
  omega
theorem dv_dec (hi : q * a + r = u) (hq : 1 ≤ q) : (q - 1) * a + (r + a) = u := by
  have : (q - 1 + 1) * a = (q - 1) * a + a := Nat.succ_mul _ _
  rw [Nat.sub_add_cancel hq] at this
  omega
end
theorem dv_lin {U d m v r A B : Nat} (d1 : U * 4294967296 + d = A + v) (d0 : v * 4294967296 + m = B + r) : U * 18446744073709551616 + (d * 4294967296 + m) = A * 4294967296 + B + r := by
  have hk : (18446744073709551616 : Nat) = 4294967296 * 4294967296 := rfl
  rw [hk, ← Nat.mul_assoc, ← Nat.add_assoc, ← Nat.add_mul, d1, Nat.add_mul, Nat.add_assoc, d0, Nat.add_assoc]
/-- the two digits make the quotient -/
theorem dv_final {y0 s hi lo : Nat} (h0 : 0 < y0) (hs : s ≤ 63) (hlo : lo < 18446744073709551616) (hhi : hi < y0)
    {y un32 un10 q1 un21 q0 rr : Nat} (hy : y = y0 * 2 ^ s) (h32 : un32 = hi * 2 ^ s + lo / 2 ^ (64 - s)) (h10 : un10 = lo * 2 ^ s % 18446744073709551616)
    (hq1 : q1 = (un32 * 4294967296 + un10 / 4294967296) / y) (hr1 : un21 = (un32 * 4294967296 + un10 / 4294967296) % y) (hq0 : q0 = (un21 * 4294967296 + un10 % 4294967296) / y) (hrr : rr = (un21 * 4294967296 + un10 % 4294967296) % y) :
    q1 * 4294967296 + q0 = (hi * 18446744073709551616 + lo) / y0 ∧ rr / 2 ^ s = (hi * 18446744073709551616 + lo) % y0 ∧ un32 < y := by
  have hp : 0 < 2 ^ s := Nat.pow_pos (by decide)
  have e64 : (18446744073709551616 : Nat) = 2 ^ (64 - s) * 2 ^ s := by rw [← Nat.pow_add, Nat.sub_add_cancel (by omega)]
  have hN : (hi * 18446744073709551616 + lo) * 2 ^ s = un32 * 18446744073709551616 + un10 := by
    have h1 : lo * 2 ^ s = lo / 2 ^ (64 - s) * 18446744073709551616 + lo * 2 ^ s % 18446744073709551616 := by
      have h2 : lo * 2 ^ s / 18446744073709551616 = lo / 2 ^ (64 - s) := by
        rw [e64, Nat.mul_div_mul_right _ _ hp]
      rw [← h2]; exact (Nat.div_add_mod' _ _).symm
    rw [Nat.add_mul, h1, h32, h10, Nat.add_mul, Nat.mul_right_comm]
    omega
  have hy0 : 0 < y := by rw [hy]; exact Nat.mul_pos h0 hp
  have d1 : un32 * 4294967296 + un10 / 4294967296 = q1 * y + un21 := by rw [hq1, hr1]; exact (Nat.div_add_mod' _ _).symm
  have d0 : un21 * 4294967296 + un10 % 4294967296 = q0 * y + rr := by rw [hq0, hrr]; exact (Nat.div_add_mod' _ _).symm
  have m0 : rr < y := by rw [hrr]; exact Nat.mod_lt _ hy0
  have hall : (hi * 18446744073709551616 + lo) * 2 ^ s = (q1 * 4294967296 + q0) * y + rr := by
    have e1 : un10 / 4294967296 * 4294967296 + un10 % 4294967296 = un10 := Nat.div_add_mod' _ _
    have e4 : (q1 * 4294967296 + q0) * y = q1 * y * 4294967296 + q0 * y := by rw [Nat.add_mul, Nat.mul_right_comm]
    have e5 := dv_lin d1 d0
    rw [e1] at e5
    rw [hN, e5, e4]
  rw [hy, ← Nat.mul_assoc] at hall
  have hdiv : rr / 2 ^ s * 2 ^ s = rr := by
    have hmod : rr % 2 ^ s = 0 := by
      have h3 : ((q1 * 4294967296 + q0) * y0 * 2 ^ s + rr) % 2 ^ s = 0 := by rw [← hall]; exact Nat.mul_mod_left _ _
      rwa [Nat.mul_add_mod_self_right] at h3
    have := Nat.div_add_mod' rr (2 ^ s); omega
  have hN2 : hi * 18446744073709551616 + lo = (q1 * 4294967296 + q0) * y0 + rr / 2 ^ s := by
    have : (hi * 18446744073709551616 + lo) * 2 ^ s = ((q1 * 4294967296 + q0) * y0 + rr / 2 ^ s) * 2 ^ s := by rw [hall, Nat.add_mul ((q1 * 4294967296 + q0) * y0) (rr / 2 ^ s) (2 ^ s), hdiv]
    exact Nat.eq_of_mul_eq_mul_right hp this
  have hlt : rr / 2 ^ s < y0 := by rw [Nat.div_lt_iff_lt_mul hp, ← hy]; exact m0
  refine ⟨?_, ?_, ?_⟩
  · rw [hN2, Nat.add_comm ((q1 * 4294967296 + q0) * y0), Nat.add_mul_div_right _ _ h0, Nat.div_eq_of_lt hlt, Nat.zero_add]
  · rw [hN2, Nat.add_comm ((q1 * 4294967296 + q0) * y0), Nat.add_mul_mod_self_right, Nat.mod_eq_of_lt hlt]
  · rw [h32, hy]
    have h4 : lo / 2 ^ (64 - s) < 2 ^ s := by rw [Nat.div_lt_iff_lt_mul (Nat.pow_pos (by decide)), Nat.mul_comm, ← e64]; exact hlo
    have h5 : (hi + 1) * 2 ^ s ≤ y0 * 2 ^ s := Nat.mul_le_mul_right _ hhi
    rw [Nat.add_mul] at h5
    omega
end Go.Eng
