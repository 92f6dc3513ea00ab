import Derived.Test.YtfmoolclokffjaaP02b
namespace Go.Proofs.Ytfmoolclokffjaa
open Go.Eng
set_option maxRecDepth 100000
set_option maxHeartbeats 4000000
set_option linter.unusedVariables false
set_option linter.unusedSimpArgs false


def svI2 (p : Int × Int) : SV := .tup2 (.raw (.int .i64 p.1)) (.raw (.int .i64 p.2))
theorem svI2_eq {p : Int × Int} {a b : Int} (h : (a, b) = p) : SV.tup2 (.raw (.int .i64 a)) (.raw (.int .i64 b)) = svI2 p := by subst h; rfl
theorem quo_natI {n m : Nat} (h : n ≤ 9223372036854775807) : IntKind.i64.wrap ((n : Int).tdiv (m : Int)) = ((n / m : Nat) : Int) := by
  rw [Int.tdiv_eq_ediv_of_nonneg (by omega), ← Int.natCast_ediv]
  have := Nat.div_le_self n m
  generalize n / m = q at this ⊢
  exact w64 (by omega)
theorem mul_natI {n m : Nat} (h : n * m ≤ 9223372036854775807) : IntKind.i64.wrap ((n : Int) * (m : Int)) = ((n * m : Nat) : Int) := by
  rw [← Int.natCast_mul]; exact w64 (by omega)
theorem add_natI {n m : Nat} (h : n + m ≤ 9223372036854775807) : IntKind.i64.wrap ((n : Int) + (m : Int)) = ((n + m : Nat) : Int) := by
  rw [← Int.natCast_add]; exact w64 (by omega)
def ngv (n d : Int) : Bool := decide (n < 0) != decide (d < 0)
def divV (n d mode : Int) : Nat := rndM (n.natAbs / d.natAbs) (n.natAbs % d.natAbs) d.natAbs (ngv n d) mode
/-- DivRound -/
def divR (n d mode : Int) : Int × Int :=
  if modeOk mode = false then (0, 1) else if d = 0 then (0, 12) else if (byd n 4611686018427387904 || byd d 4611686018427387904) = true then (0, 3) else (sgn (divV n d mode) (ngv n d), 0)
def ngv3 (c num den : Int) : Bool := (decide (c < 0) != decide (num < 0)) != decide (den < 0)
def mdV (c num den mode : Int) : Nat := rndM (c.natAbs * num.natAbs / den.natAbs) (c.natAbs * num.natAbs % den.natAbs) den.natAbs (ngv3 c num den) mode
/-- MulDiv -/
def mdR (c num den mode : Int) : Int × Int :=
  if modeOk mode = false then (0, 1) else if den = 0 then (0, 12) else if ((byd c 1000000000000000 || byd num 1000000000) || byd den 1000000000) = true then (0, 3)
  else if 1000000000000000 < mdV c num den mode then (0, 3) else (sgn (mdV c num den mode) (ngv3 c num den), 0)
/-- RoundTo -/
def rtR (c unit mode : Int) : Int × Int :=
  if modeOk mode = false then (0, 1) else if unit < 1 then (0, 12) else if (byd c 1000000000000000 || decide (unit > 1000000000000000)) = true then (0, 3)
  else if byd (sgn (divV c unit mode) (ngv c unit) * unit) 1000000000000000 = true then (0, 3) else (sgn (divV c unit mode) (ngv c unit) * unit, 0)
/-- Sum -/
def sumF : Int → List Int → Int × Int
  | t, [] => (t, 0)
  | t, x :: l => if byd x 1000000000000000 = true then (0, 3) else if byd (t + x) 1000000000000000 = true then (0, 3) else sumF (t + x) l
theorem byd_f {n limit : Int} (h : byd n limit = false) : -limit ≤ n ∧ n ≤ limit := by simp [byd] at h; omega
theorem byd_t {n limit : Int} (h : byd n limit = true) : limit < n ∨ n < -limit := by simpa [byd] using h
theorem rndM_mul {q r d : Nat} {neg : Bool} {mode : Int} : rndM q r d neg mode * d ≤ q * d + d ∧ (r = 0 → rndM q r d neg mode = q) := by
  constructor
  · have := (rndM_le q r d neg mode).1
    calc rndM q r d neg mode * d ≤ (q + 1) * d := Nat.mul_le_mul_right _ this
      _ = q * d + d := Nat.succ_mul _ _
  · intro h; unfold rndM upM; rw [if_pos h]; rfl
theorem sgn_abs (q : Nat) (neg : Bool) : (sgn q neg).natAbs = q := by unfold sgn; split <;> omega
theorem orF {a b : Bool} (h : (a || b) = false) : a = false ∧ b = false := by simpa using h
theorem dv_qr {a b x : Nat} (hb : 0 < b) : a / b * x + a % b * x / b = a * x / b ∧ a % b * x % b = a * x % b := by
  have h : a * x = a / b * x * b + a % b * x := by
    have := Nat.div_add_mod' a b
    calc a * x = (a / b * b + a % b) * x := by rw [this]
      _ = _ := by rw [Nat.add_mul, Nat.mul_right_comm]
  constructor
  · rw [h, Nat.add_comm (a / b * x * b), Nat.add_mul_div_right _ _ hb, Nat.add_comm]
  · rw [h, Nat.add_comm (a / b * x * b), Nat.add_mul_mod_self_right]


theorem md_big {p d : Nat} (h0 : 0 < d) (h : d ≤ p / 18446744073709551616) : 1000000000000000 < p / d := by
  have h1 : 18446744073709551616 ≤ p / d := by
    rw [Nat.le_div_iff_mul_le h0, Nat.mul_comm]
    exact (Nat.le_div_iff_mul_le (by omega)).1 h
  omega
theorem md_prod {a b : Nat} (h1 : a ≤ 1000000000000000) (h2 : b ≤ 1000000000) : a * b ≤ 1000000000000000 * 1000000000 := Nat.mul_le_mul h1 h2


end Go.Proofs.Ytfmoolclokffjaa
