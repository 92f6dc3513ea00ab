import Derived.Test.YtcdkmhmlpjnfeaaP12e
namespace Go.Proofs.Ytcdkmhmlpjnfeaa
open Go.Eng
set_option maxRecDepth 100000
set_option linter.unusedVariables false
set_option linter.unusedSimpArgs false
/-- a sum of millionths, rounded -/
def tvR (total : Int) (mode : Int) : Int := sgn (rndM (total.natAbs / 1000000) (total.natAbs % 1000000) 1000000 (decide (total < 0)) mode) (decide (total < 0))
/-- an even part may stand aside -/
theorem rndM_shift (q e r d : Nat) (neg : Bool) (mode : Int) : rndM (q + 2 * e) r d neg mode = rndM q r d neg mode + 2 * e := by
  have h : upM (q + 2 * e) r d neg mode = upM q r d neg mode := by unfold upM; rw [show (q + 2 * e) % 2 = q % 2 by omega]
  unfold rndM
  rw [h]
  split <;> omega
theorem tvR_shift (N : Int) (e : Nat) (mode : Int) : (0 < N → tvR (N + 2 * e * 1000000) mode = tvR N mode + 2 * e) ∧ (N < 0 → tvR (N - 2 * e * 1000000) mode = tvR N mode - 2 * e) := by
  constructor
  · intro h
    have a1 : (N + 2 * e * 1000000).natAbs / 1000000 = N.natAbs / 1000000 + 2 * e := by omega
    have a2 : (N + 2 * e * 1000000).natAbs % 1000000 = N.natAbs % 1000000 := by omega
    unfold tvR
    rw [a1, a2, decide_eq_false (show ¬ N + 2 * e * 1000000 < 0 by omega), decide_eq_false (show ¬ N < 0 by omega), rndM_shift]
    unfold sgn; simp
  · intro h
    have a1 : (N - 2 * e * 1000000).natAbs / 1000000 = N.natAbs / 1000000 + 2 * e := by omega
    have a2 : (N - 2 * e * 1000000).natAbs % 1000000 = N.natAbs % 1000000 := by omega
    unfold tvR
    rw [a1, a2, decide_eq_true (show N - 2 * e * 1000000 < 0 by omega), decide_eq_true h, rndM_shift]
    unfold sgn; simp; omega
theorem divR_tvR {N : Int} {mode : Int} (h : -4611686018427387904 ≤ N ∧ N ≤ 4611686018427387904) (hm : modeOk mode = true) : divR N 1000000 mode = (tvR N mode, 0) := by
  have b1 : byd N 4611686018427387904 = false := by simp [byd]; omega
  have b2 : byd 1000000 4611686018427387904 = false := by decide
  unfold divR
  rw [if_neg (by simp [hm]), if_neg (by decide), if_neg (by simp [b1, b2])]
  have e : ngv N 1000000 = decide (N < 0) := by unfold ngv; rw [decide_eq_false (show ¬ (1000000 : Int) < 0 by decide)]; simp
  unfold tvR divV
  rw [e]; rfl
theorem tvR_big {total : Int} {mode : Int} : (1000000000000000 < total.natAbs / 1000000 → 1000000000000000 < (tvR total mode).natAbs) := by
  intro h
  unfold tvR
  have := (rndM_le (total.natAbs / 1000000) (total.natAbs % 1000000) 1000000 (decide (total < 0)) mode).2
  have := sgn_abs (rndM (total.natAbs / 1000000) (total.natAbs % 1000000) 1000000 (decide (total < 0)) mode) (decide (total < 0))
  omega
end Go.Proofs.Ytcdkmhmlpjnfeaa
