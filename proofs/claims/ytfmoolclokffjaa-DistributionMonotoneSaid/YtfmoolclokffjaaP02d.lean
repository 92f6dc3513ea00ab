import Derived.Test.YtfmoolclokffjaaP02c
namespace Go.Proofs.Ytfmoolclokffjaa
open Go.Eng
set_option maxRecDepth 100000
set_option maxHeartbeats 4000000
set_option linter.unusedVariables false
set_option linter.unusedSimpArgs false


theorem mul_big {a x : Nat} (hx : 0 < x) (h : 1000000000000000 / x < a) : 1000000000000000 < a * x := (Nat.div_lt_iff_lt_mul hx).1 h
theorem mul_small {a x : Nat} (h : x = 0 ∨ a ≤ 1000000000000000 / x) : a * x ≤ 1000000000000000 := by
  rcases h with rfl | h
  · simp
  · exact Nat.le_trans (Nat.mul_le_mul_right _ h) (Nat.div_mul_le_self _ _)
theorem sgn_mul_le {v K : Nat} {u : Int} {neg : Bool} (h : v * u.natAbs ≤ K) : -(K : Int) ≤ sgn v neg * u ∧ sgn v neg * u ≤ K := by
  have : (sgn v neg * u).natAbs = v * u.natAbs := by rw [Int.natAbs_mul, sgn_abs]
  omega
theorem divV_mul {c u mode : Int} (hu : 0 < u) : divV c u mode * u.natAbs ≤ c.natAbs + u.natAbs := by
  have h := (rndM_mul (q := c.natAbs / u.natAbs) (r := c.natAbs % u.natAbs) (d := u.natAbs) (neg := ngv c u) (mode := mode)).1
  have := Nat.div_mul_le_self c.natAbs u.natAbs
  unfold divV; omega
theorem divR_v {c u mode : Int} (hm : modeOk mode = true) (hu : ¬ u < 1) (hc : -1000000000000000 ≤ c ∧ c ≤ 1000000000000000) (hu2 : u ≤ 1000000000000000) : divR c u mode = (sgn (divV c u mode) (ngv c u), 0) := by
  have b1 : byd c 4611686018427387904 = false := by simp [byd]; omega
  have b2 : byd u 4611686018427387904 = false := by simp [byd]; omega
  unfold divR
  rw [if_neg (by simp [hm]), if_neg (by omega), if_neg (by simp [b1, b2])]
theorem sumF_or {t x : Int} {l : List Int} (h : (byd x 1000000000000000 || byd (t + x) 1000000000000000) = true) : sumF t (x :: l) = (0, 3) := by
  rw [sumF]
  by_cases q : byd x 1000000000000000 = true
  · rw [if_pos q]
  · rw [if_neg q, if_pos (by simpa [q] using h)]
theorem byd_sgn {v : Nat} {neg : Bool} : byd (sgn v neg) 1000000000000000 = decide (1000000000000000 < v) := by
  rw [Bool.eq_iff_iff]; unfold sgn; simp [byd]; split <;> omega






end Go.Proofs.Ytfmoolclokffjaa
