import Derived.Test.YtcdkmhmlpjnfeaaP02b
namespace Go.Proofs.Ytcdkmhmlpjnfeaa
open Go.Eng
set_option maxRecDepth 100000
set_option maxHeartbeats 4000000
set_option linter.unusedVariables false
set_option linter.unusedSimpArgs false


def svI2 (p : Int × Int) : SV := .tup2 (.raw (.int .i64 p.1)) (.raw (.int .i64 p.2))
theorem svI2_eq {p : Int × Int} {a b : Int} (h : (a, b) = p) : SV.tup2 (.raw (.int .i64 a)) (.raw (.int .i64 b)) = svI2 p := by subst h; rfl
theorem quo_natI {n m : Nat} (h : n ≤ 9223372036854775807) : IntKind.i64.wrap ((n : Int).tdiv (m : Int)) = ((n / m : Nat) : Int) := by
  rw [Int.tdiv_eq_ediv_of_nonneg (by omega), ← Int.natCast_ediv]
  have := Nat.div_le_self n m
  generalize n / m = q at this ⊢
  exact w64 (by omega)
theorem mul_natI {n m : Nat} (h : n * m ≤ 9223372036854775807) : IntKind.i64.wrap ((n : Int) * (m : Int)) = ((n * m : Nat) : Int) := by
  rw [← Int.natCast_mul]; exact w64 (by omega)
theorem add_natI {n m : Nat} (h : n + m ≤ 9223372036854775807) : IntKind.i64.wrap ((n : Int) + (m : Int)) = ((n + m : Nat) : Int) := by
  rw [← Int.natCast_add]; exact w64 (by omega)
def ngv (n d : Int) : Bool := decide (n < 0) != decide (d < 0)
def divV (n d mode : Int) : Nat := rndM (n.natAbs / d.natAbs) (n.natAbs % d.natAbs) d.natAbs (ngv n d) mode
/-- DivRound -/
def divR (n d mode : Int) : Int × Int :=
  if modeOk mode = false then (0, 1) else if d = 0 then (0, 12) else if (byd n 4611686018427387904 || byd d 4611686018427387904) = true then (0, 3) else (sgn (divV n d mode) (ngv n d), 0)
def ngv3 (c num den : Int) : Bool := (decide (c < 0) != decide (num < 0)) != decide (den < 0)
def mdV (c num den mode : Int) : Nat := rndM (c.natAbs * num.natAbs / den.natAbs) (c.natAbs * num.natAbs % den.natAbs) den.natAbs (ngv3 c num den) mode
/-- MulDiv -/
def mdR (c num den mode : Int) : Int × Int :=
  if modeOk mode = false then (0, 1) else if den = 0 then (0, 12) else if ((byd c 1000000000000000 || byd num 1000000000) || byd den 1000000000) = true then (0, 3)
  else if 1000000000000000 < mdV c num den mode then (0, 3) else (sgn (mdV c num den mode) (ngv3 c num den), 0)
/-- RoundTo -/
def rtR (c unit mode : Int) : Int × Int :=
  if modeOk mode = false then (0, 1) else if unit < 1 then (0, 12) else if (byd c 1000000000000000 || decide (unit > 1000000000000000)) = true then (0, 3)
  else if byd (sgn (divV c unit mode) (ngv c unit) * unit) 1000000000000000 = true then (0, 3) else (sgn (divV c unit mode) (ngv c unit) * unit, 0)
/-- Sum -/
def sumF : Int → List Int → Int × Int
  | t, [] => (t, 0)
  | t, x :: l => if byd x 1000000000000000 = true then (0, 3) else if byd (t + x) 1000000000000000 = true then (0, 3) else sumF (t + x) l
theorem byd_f {n limit : Int} (h : byd n limit = false) : -limit ≤ n ∧ n ≤ limit := by simp [byd] at h; omega
theorem byd_t {n limit : Int} (h : byd n limit = true) : limit < n ∨ n < -limit := by simpa [byd] using h
theorem rndM_mul {q r d : Nat} {neg : Bool} {mode : Int} : rndM q r d neg mode * d ≤ q * d + d ∧ (r = 0 → rndM q r d neg mode = q) := by
  constructor
  · have := (rndM_le q r d neg mode).1
    calc rndM q r d neg mode * d ≤ (q + 1) * d := Nat.mul_le_mul_right _ this
      _ = q * d + d := Nat.succ_mul _ _
  · intro h; unfold rndM upM; rw [if_pos h]; rfl
theorem sgn_abs (q : Nat) (neg : Bool) : (sgn q neg).natAbs = q := by unfold sgn; split <;> omega
theorem orF {a b : Bool} (h : (a || b) = false) : a = false ∧ b = false := by simpa using h
theorem dv_qr {a b x : Nat} (hb : 0 < b) : a / b * x + a % b * x / b = a * x / b ∧ a % b * x % b = a * x % b := by
  have h : a * x = a / b * x * b + a % b * x := by
    have := Nat.div_add_mod' a b
    calc a * x = (a / b * b + a % b) * x := by rw [this]
      _ = _ := by rw [Nat.add_mul, Nat.mul_right_comm]
  constructor
  · rw [h, Nat.add_comm (a / b * x * b), Nat.add_mul_div_right _ _ hb, Nat.add_comm]
  · rw [h, Nat.add_comm (a / b * x * b), Nat.add_mul_mod_self_right]

theorem divRound_ok (n d mode : Int) : Ct Try.prog 73 [.raw (.int .i64 n), .raw (.int .i64 d), .raw (.int .i64 mode)] (svI2 (divR n d mode)) := by
  refine ct_intro Try.func73 rfl rfl Try.ntmps73 rfl rfl ?_
  intro w0 ok0
  refine j_seq ?_
  refine j_region ?_
  refine jg_adr _ rfl _ rfl rfl (op_assign (.base rfl)) ?_
  refine jg_adr _ rfl _ rfl rfl (op_assign (.base rfl)) ?_
  refine jg_nil ?_
  refine jn_keep [0, 1, 2] [] (.cons rfl (.cons rfl (.cons rfl .nil))) .nil ?_
  refine jn_seq (j_seq (j_seq ?_))
  refine j_region ?_
  refine jg_adr _ rfl _ rfl rfl (op_move (.base rfl)) ?_
  refine jg_adr _ rfl _ rfl rfl (op_call (validModeM_ok _) (.cons (.base rfl) .nil) rfl rfl) ?_
  refine jg_adr _ rfl _ rfl rfl (op_not (.base rfl)) ?_
  refine jg_nil ?_
  refine jn_keep [0, 1, 2, 14] [] (.cons rfl (.cons rfl (.cons rfl (.cons rfl .nil)))) .nil ?_
  refine jn_seq ?_
  refine j_cond rfl (fun h1 => ?_) (fun h1 => ?_)
  · have h1 : modeOk mode = false := by simpa using h1
    refine j_seq ?_
    refine j_region ?_
    refine jg_adr _ rfl _ rfl rfl (op_assign (.base rfl)) ?_
    refine jg_adr _ rfl _ rfl rfl (op_assign (.base rfl)) ?_
    refine jg_nil ?_
    refine jn_keep [6, 7] [] (.cons rfl (.cons rfl .nil)) .nil ?_
    refine jn_seq (j_ret (jr_seq ?_))
    exact jr_fin2 Try.results73 (res_tmp rfl) (res_tmp rfl) ⟨rfl, rfl⟩ (svI2_eq (by unfold divR; rw [if_pos h1]))
  · have h1 : modeOk mode = true := by simpa using h1
    refine j_skip (jn_seq (j_seq (j_seq ?_)))
    refine j_region ?_
    refine jg_adr _ rfl _ rfl rfl (op_move (.base rfl)) ?_
    refine jg_adr _ rfl _ rfl rfl (op_eql (.base rfl) (.base rfl)) ?_
    refine jg_nil ?_
    refine jn_keep [0, 1, 2, 16] [] (.cons rfl (.cons rfl (.cons rfl (.cons rfl .nil)))) .nil ?_
    refine jn_seq ?_
    refine j_cond rfl (fun h3 => ?_) (fun h3 => ?_)
    · try simp at h3
      refine j_seq ?_
      refine j_region ?_
      refine jg_adr _ rfl _ rfl rfl (op_assign (.base rfl)) ?_
      refine jg_adr _ rfl _ rfl rfl (op_assign (.base rfl)) ?_
      refine jg_nil ?_
      refine jn_keep [6, 7] [] (.cons rfl (.cons rfl .nil)) .nil ?_
      refine jn_seq (j_ret (jr_seq ?_))
      exact jr_fin2 Try.results73 (res_tmp rfl) (res_tmp rfl) ⟨rfl, rfl⟩ (svI2_eq (by unfold divR; simp [h1, h3]))
    · try simp at h3
      refine j_skip (jn_seq (j_seq (j_seq ?_)))
      refine j_region ?_
      refine jg_adr _ rfl _ rfl rfl (op_move (.base rfl)) ?_
      refine jg_adr _ rfl _ rfl rfl (op_call (beyond_ok _ _ (by omega)) (.cons (.base rfl) (.cons (.base rfl) .nil)) rfl rfl) ?_
      refine jg_adr _ rfl _ rfl rfl (op_move (.base rfl)) ?_
      refine jg_gd _ _ _ _ _ _ rfl rfl rfl rfl rfl (fun hg => op_move (.base rfl)) ?_
      refine jg_gd _ _ _ _ _ _ rfl rfl rfl rfl rfl (fun hg => op_call (beyond_ok _ _ (by omega)) (.cons (.gd rfl hg) (.cons (.base rfl) .nil)) rfl rfl) ?_
      refine jg_adr _ rfl _ rfl rfl (op_pick_or (.base rfl) (.base rfl) rfl (by intro h; first | (rw [h]; rfl) | (rw [hg, h]; rfl) | (rw [h, hg]; rfl) | simp_all)) ?_
      refine jg_nil ?_
      refine jn_keep [0, 1, 2, 22] [] (.cons rfl (.cons rfl (.cons rfl (.cons rfl .nil)))) .nil ?_
      refine jn_seq ?_
      refine j_cond rfl (fun h5 => ?_) (fun h5 => ?_)
      · skip
        refine j_seq ?_
        refine j_region ?_
        refine jg_adr _ rfl _ rfl rfl (op_assign (.base rfl)) ?_
        refine jg_adr _ rfl _ rfl rfl (op_assign (.base rfl)) ?_
        refine jg_nil ?_
        refine jn_keep [6, 7] [] (.cons rfl (.cons rfl .nil)) .nil ?_
        refine jn_seq (j_ret (jr_seq ?_))
        exact jr_fin2 Try.results73 (res_tmp rfl) (res_tmp rfl) ⟨rfl, rfl⟩ (svI2_eq (by unfold divR; simp [h1, h3, h5]))
      · have k5 := byd_f (orF h5).1
        have k6 := byd_f (orF h5).2
        refine j_skip (jn_seq (j_seq ?_))
        refine j_region ?_
        refine jg_adr _ rfl _ rfl rfl (op_move (.base rfl)) ?_
        refine jg_adr _ rfl _ rfl rfl (op_lss (.base rfl) (.base rfl)) ?_
        refine jg_adr _ rfl _ rfl rfl (op_move (.base rfl)) ?_
        refine jg_adr _ rfl _ rfl rfl (op_lss (.base rfl) (.base rfl)) ?_
        refine jg_adr _ rfl _ rfl rfl (op_neq_bool Try.underlying4 (.base rfl) (.base rfl)) ?_
        refine jg_adr _ rfl _ rfl rfl (op_assign (.base rfl)) ?_
        refine jg_nil ?_
        refine jn_keep [0, 1, 2, 8] [] (.cons rfl (.cons rfl (.cons rfl (.cons rfl .nil)))) .nil ?_
        refine jn_seq (j_seq ?_)
        refine j_region ?_
        refine jg_adr _ rfl _ rfl rfl (op_move (.base rfl)) ?_
        refine jg_adr _ rfl _ rfl rfl (op_call (magnitude_ok _ (by omega)) (.cons (.base rfl) .nil) rfl rfl) ?_
        refine jg_adr _ rfl _ rfl rfl (op_move (.base rfl)) ?_
        refine jg_adr _ rfl _ rfl rfl (op_call (magnitude_ok _ (by omega)) (.cons (.base rfl) .nil) rfl rfl) ?_
        refine jg_adr _ rfl _ rfl rfl (op_assign (.base rfl)) ?_
        refine jg_adr _ rfl _ rfl rfl (op_assign (.base rfl)) ?_
        refine jg_nil ?_
        refine jn_keep [2, 8, 9, 10] [] (.cons rfl (.cons rfl (.cons rfl (.cons rfl .nil)))) .nil ?_
        refine jn_seq (j_seq ?_)
        refine j_draw mo (by kernel_rfl) (
          AS.cons _ _ rfl (ga_adr rfl rfl rfl (op_move (.base rfl))) (
            AS.cons _ _ rfl (ga_adr rfl rfl rfl (op_move (.base rfl))) (
            AS.cons _ _ rfl (ga_adr rfl rfl rfl (op_quo (.base rfl) (.base rfl) (by omega) (quo_nat (by omega)))) (
            AS.cons _ _ rfl (ga_adr rfl rfl rfl (op_move (.base rfl))) (
            AS.cons _ _ rfl (ga_adr rfl rfl rfl (op_move (.base rfl))) (
            AS.cons _ _ rfl (ga_adr rfl rfl rfl (op_rem_e (.base rfl) (.base rfl) (by omega) rem_nat)) (
            AS.cons _ _ rfl (ga_adr rfl rfl rfl (op_move (.base rfl))) (
            AS.cons _ _ rfl (ga_adr rfl rfl rfl (op_move (.base rfl))) (
            AS.cons _ _ rfl (ga_adr rfl rfl rfl (op_move (.base rfl))) (
            AS.cons _ _ rfl (ga_adr rfl rfl rfl (op_call (roundMag_ok _ _ _ _ _ (Nat.mod_lt _ (by omega)) (by omega) (Nat.le_trans (Nat.div_le_self _ _) (by omega))) (.cons (.base rfl) (.cons (.base rfl) (.cons (.base rfl) (.cons (.base rfl) (.cons (.base rfl) .nil))))) rfl rfl)) (
            AS.cons _ _ rfl (ga_adr rfl rfl rfl (op_assign (.base rfl))) (
            AS.nil)))))))))))) ?_
        refine jn_keep [8, 11] [] (.cons rfl (.cons rfl .nil)) .nil ?_
        refine jn_seq (j_seq ?_)
        have k7 : divV n d mode ≤ 9223372036854775807 := Nat.le_trans (rndM_le _ _ _ _ _).1 (by have := Nat.div_le_self n.natAbs d.natAbs; omega)
        refine j_region ?_
        refine jg_adr _ rfl _ rfl rfl (op_move (.base rfl)) ?_
        refine jg_adr _ rfl _ rfl rfl (op_move (.base rfl)) ?_
        refine jg_adr _ rfl _ rfl rfl (op_call (signedM_ok (divV n d mode) (ngv n d) k7) (.cons (.base rfl) (.cons (.base rfl) .nil)) rfl rfl) ?_
        refine jg_adr _ rfl _ rfl rfl (op_assign (.base rfl)) ?_
        refine jg_adr _ rfl _ rfl rfl (op_assign (.base rfl)) ?_
        refine jg_nil ?_
        refine jn_keep [6, 7] [] (.cons rfl (.cons rfl .nil)) .nil ?_
        refine jn_seq (j_ret ?_)
        exact jr_fin2 Try.results73 (res_tmp rfl) (res_tmp rfl) ⟨rfl, rfl⟩ (svI2_eq (by unfold divR; simp [h1, h3, h5]))

theorem md_big {p d : Nat} (h0 : 0 < d) (h : d ≤ p / 18446744073709551616) : 1000000000000000 < p / d := by
  have h1 : 18446744073709551616 ≤ p / d := by
    rw [Nat.le_div_iff_mul_le h0, Nat.mul_comm]
    exact (Nat.le_div_iff_mul_le (by omega)).1 h
  omega
theorem md_prod {a b : Nat} (h1 : a ≤ 1000000000000000) (h2 : b ≤ 1000000000) : a * b ≤ 1000000000000000 * 1000000000 := Nat.mul_le_mul h1 h2

theorem mulDiv_ok (c num den mode : Int) : Ct Try.prog 26 [.raw (.int .i64 c), .raw (.int .i64 num), .raw (.int .i64 den), .raw (.int .i64 mode)] (svI2 (mdR c num den mode)) := by
  refine ct_intro Try.func26 rfl rfl Try.ntmps26 rfl rfl ?_
  intro w0 ok0
  refine j_seq ?_
  refine j_region ?_
  refine jg_adr _ rfl _ rfl rfl (op_assign (.base rfl)) ?_
  refine jg_adr _ rfl _ rfl rfl (op_assign (.base rfl)) ?_
  refine jg_nil ?_
  refine jn_keep [0, 1, 2, 3] [] (.cons rfl (.cons rfl (.cons rfl (.cons rfl .nil)))) .nil ?_
  refine jn_seq (j_seq (j_seq ?_))
  refine j_region ?_
  refine jg_adr _ rfl _ rfl rfl (op_move (.base rfl)) ?_
  refine jg_adr _ rfl _ rfl rfl (op_call (validModeM_ok _) (.cons (.base rfl) .nil) rfl rfl) ?_
  refine jg_adr _ rfl _ rfl rfl (op_not (.base rfl)) ?_
  refine jg_nil ?_
  refine jn_keep [0, 1, 2, 3, 18] [] (.cons rfl (.cons rfl (.cons rfl (.cons rfl (.cons rfl .nil))))) .nil ?_
  refine jn_seq ?_
  refine j_cond rfl (fun h1 => ?_) (fun h1 => ?_)
  · have h1 : modeOk mode = false := by simpa using h1
    refine j_seq ?_
    refine j_region ?_
    refine jg_adr _ rfl _ rfl rfl (op_assign (.base rfl)) ?_
    refine jg_adr _ rfl _ rfl rfl (op_assign (.base rfl)) ?_
    refine jg_nil ?_
    refine jn_keep [8, 9] [] (.cons rfl (.cons rfl .nil)) .nil ?_
    refine jn_seq (j_ret (jr_seq ?_))
    exact jr_fin2 Try.results26 (res_tmp rfl) (res_tmp rfl) ⟨rfl, rfl⟩ (svI2_eq (by unfold mdR; rw [if_pos h1]))
  · have h1 : modeOk mode = true := by simpa using h1
    refine j_skip (jn_seq (j_seq (j_seq ?_)))
    refine j_region ?_
    refine jg_adr _ rfl _ rfl rfl (op_move (.base rfl)) ?_
    refine jg_adr _ rfl _ rfl rfl (op_eql (.base rfl) (.base rfl)) ?_
    refine jg_nil ?_
    refine jn_keep [0, 1, 2, 3, 20] [] (.cons rfl (.cons rfl (.cons rfl (.cons rfl (.cons rfl .nil))))) .nil ?_
    refine jn_seq ?_
    refine j_cond rfl (fun h3 => ?_) (fun h3 => ?_)
    · try simp at h3
      refine j_seq ?_
      refine j_region ?_
      refine jg_adr _ rfl _ rfl rfl (op_assign (.base rfl)) ?_
      refine jg_adr _ rfl _ rfl rfl (op_assign (.base rfl)) ?_
      refine jg_nil ?_
      refine jn_keep [8, 9] [] (.cons rfl (.cons rfl .nil)) .nil ?_
      refine jn_seq (j_ret (jr_seq ?_))
      exact jr_fin2 Try.results26 (res_tmp rfl) (res_tmp rfl) ⟨rfl, rfl⟩ (svI2_eq (by unfold mdR; simp [h1, h3]))
    · try simp at h3
      refine j_skip (jn_seq (j_seq (j_seq ?_)))
      refine j_region ?_
      refine jg_adr _ rfl _ rfl rfl (op_move (.base rfl)) ?_
      refine jg_adr _ rfl _ rfl rfl (op_call (beyond_ok _ _ (by omega)) (.cons (.base rfl) (.cons (.base rfl) .nil)) rfl rfl) ?_
      refine jg_adr _ rfl _ rfl rfl (op_move (.base rfl)) ?_
      refine jg_gd _ _ _ _ _ _ rfl rfl rfl rfl rfl (fun hg => op_move (.base rfl)) ?_
      refine jg_gd _ _ _ _ _ _ rfl rfl rfl rfl rfl (fun hg => op_call (beyond_ok _ _ (by omega)) (.cons (.gd rfl hg) (.cons (.base rfl) .nil)) rfl rfl) ?_
      refine jg_adr _ rfl _ rfl rfl (op_pick_or (.base rfl) (.base rfl) rfl (by intro h; first | (rw [h]; rfl) | (rw [hg, h]; rfl) | (rw [h, hg]; rfl) | simp_all)) ?_
      refine jg_adr _ rfl _ rfl rfl (op_move (.base rfl)) ?_
      refine jg_gd _ _ _ _ _ _ rfl rfl rfl rfl rfl (fun hg => op_move (.base rfl)) ?_
      refine jg_gd _ _ _ _ _ _ rfl rfl rfl rfl rfl (fun hg => op_call (beyond_ok _ _ (by omega)) (.cons (.gd rfl hg) (.cons (.base rfl) .nil)) rfl rfl) ?_
      refine jg_adr _ rfl _ rfl rfl (op_pick_or (.base rfl) (.base rfl) rfl (by intro h; first | (rw [h]; rfl) | (rw [hg, h]; rfl) | (rw [h, hg]; rfl) | simp_all)) ?_
      refine jg_nil ?_
      refine jn_keep [0, 1, 2, 3, 30] [] (.cons rfl (.cons rfl (.cons rfl (.cons rfl (.cons rfl .nil))))) .nil ?_
      refine jn_seq ?_
      refine j_cond rfl (fun h5 => ?_) (fun h5 => ?_)
      · skip
        refine j_seq ?_
        refine j_region ?_
        refine jg_adr _ rfl _ rfl rfl (op_assign (.base rfl)) ?_
        refine jg_adr _ rfl _ rfl rfl (op_assign (.base rfl)) ?_
        refine jg_nil ?_
        refine jn_keep [8, 9] [] (.cons rfl (.cons rfl .nil)) .nil ?_
        refine jn_seq (j_ret (jr_seq ?_))
        exact jr_fin2 Try.results26 (res_tmp rfl) (res_tmp rfl) ⟨rfl, rfl⟩ (svI2_eq (by unfold mdR; simp [h1, h3, h5]))
      · have k5 := byd_f (orF (orF h5).1).1
        have k6 := byd_f (orF (orF h5).1).2
        have k7 := byd_f (orF h5).2
        have kd : 0 < den.natAbs := by omega
        refine j_skip (jn_seq (j_seq ?_))
        refine j_region ?_
        refine jg_adr _ rfl _ rfl rfl (op_move (.base rfl)) ?_
        refine jg_adr _ rfl _ rfl rfl (op_lss (.base rfl) (.base rfl)) ?_
        refine jg_adr _ rfl _ rfl rfl (op_move (.base rfl)) ?_
        refine jg_adr _ rfl _ rfl rfl (op_lss (.base rfl) (.base rfl)) ?_
        refine jg_adr _ rfl _ rfl rfl (op_neq_bool Try.underlying4 (.base rfl) (.base rfl)) ?_
        refine jg_adr _ rfl _ rfl rfl (op_move (.base rfl)) ?_
        refine jg_adr _ rfl _ rfl rfl (op_lss (.base rfl) (.base rfl)) ?_
        refine jg_adr _ rfl _ rfl rfl (op_neq_bool Try.underlying4 (.base rfl) (.base rfl)) ?_
        refine jg_adr _ rfl _ rfl rfl (op_assign (.base rfl)) ?_
        refine jg_nil ?_
        refine jn_keep [0, 1, 2, 3, 10] [] (.cons rfl (.cons rfl (.cons rfl (.cons rfl (.cons rfl .nil))))) .nil ?_
        refine jn_seq (j_seq ?_)
        refine j_region ?_
        refine jg_adr _ rfl _ rfl rfl (op_move (.base rfl)) ?_
        refine jg_adr _ rfl _ rfl rfl (op_call (magnitude_ok _ (by omega)) (.cons (.base rfl) .nil) rfl rfl) ?_
        refine jg_adr _ rfl _ rfl rfl (op_move (.base rfl)) ?_
        refine jg_adr _ rfl _ rfl rfl (op_call (magnitude_ok _ (by omega)) (.cons (.base rfl) .nil) rfl rfl) ?_
        refine jg_adr _ rfl _ rfl rfl (op_call (mul64_ok (by omega) (by omega)) (.cons (.base rfl) (.cons (.base rfl) .nil)) rfl rfl) ?_
        refine jg_adr _ rfl _ rfl rfl (op_move (.base rfl)) ?_
        refine jg_adr _ rfl _ rfl rfl (op_ext20 (.base rfl)) ?_
        refine jg_adr _ rfl _ rfl rfl (op_ext21 (.base rfl)) ?_
        refine jg_adr _ rfl _ rfl rfl (op_assign (.base rfl)) ?_
        refine jg_adr _ rfl _ rfl rfl (op_assign (.base rfl)) ?_
        refine jg_nil ?_
        refine jn_keep [2, 3, 10, 11, 12] [] (.cons rfl (.cons rfl (.cons rfl (.cons rfl (.cons rfl .nil))))) .nil ?_
        refine jn_seq (j_seq ?_)
        refine j_region ?_
        refine jg_adr _ rfl _ rfl rfl (op_move (.base rfl)) ?_
        refine jg_adr _ rfl _ rfl rfl (op_call (magnitude_ok _ (by omega)) (.cons (.base rfl) .nil) rfl rfl) ?_
        refine jg_adr _ rfl _ rfl rfl (op_assign (.base rfl)) ?_
        refine jg_nil ?_
        refine jn_keep [3, 10, 11, 12, 13] [] (.cons rfl (.cons rfl (.cons rfl (.cons rfl (.cons rfl .nil))))) .nil ?_
        refine jn_seq (j_seq (j_seq ?_))
        refine j_region ?_
        refine jg_adr _ rfl _ rfl rfl (op_move (.base rfl)) ?_
        refine jg_adr _ rfl _ rfl rfl (op_move (.base rfl)) ?_
        refine jg_adr _ rfl _ rfl rfl (op_geq (.base rfl) (.base rfl)) ?_
        refine jg_nil ?_
        refine jn_keep [3, 10, 11, 12, 13, 51] [] (.cons rfl (.cons rfl (.cons rfl (.cons rfl (.cons rfl (.cons rfl .nil)))))) .nil ?_
        refine jn_seq ?_
        refine j_cond rfl (fun h10 => ?_) (fun h10 => ?_)
        · have h10 : den.natAbs ≤ c.natAbs * num.natAbs / 18446744073709551616 := by have := of_decide_eq_true h10; omega
          have k8 : 1000000000000000 < c.natAbs * num.natAbs / den.natAbs := md_big kd h10
          refine j_seq ?_
          refine j_region ?_
          refine jg_adr _ rfl _ rfl rfl (op_assign (.base rfl)) ?_
          refine jg_adr _ rfl _ rfl rfl (op_assign (.base rfl)) ?_
          refine jg_nil ?_
          refine jn_keep [8, 9] [] (.cons rfl (.cons rfl .nil)) .nil ?_
          refine jn_seq (j_ret (jr_seq ?_))
          exact jr_fin2 Try.results26 (res_tmp rfl) (res_tmp rfl) ⟨rfl, rfl⟩ (svI2_eq (by unfold mdR; rw [if_neg (by simp [h1]), if_neg h3, if_neg (by simp [h5]), if_pos (show 1000000000000000 < mdV c num den mode from Nat.lt_of_lt_of_le k8 (rndM_le _ _ _ _ _).2)]))
        · have h10 : c.natAbs * num.natAbs / 18446744073709551616 < den.natAbs := by have := of_decide_eq_false h10; omega
          refine j_skip (jn_seq (j_seq ?_))
          refine j_region ?_
          refine jg_adr _ rfl _ rfl rfl (op_move (.base rfl)) ?_
          refine jg_adr _ rfl _ rfl rfl (op_move (.base rfl)) ?_
          refine jg_adr _ rfl _ rfl rfl (op_move (.base rfl)) ?_
          refine jg_adr _ rfl _ rfl rfl (op_call (div64_ok (by omega) (by omega) (Nat.mod_lt _ (by omega))) (.cons (.base rfl) (.cons (.base rfl) (.cons (.base rfl) .nil))) rfl rfl) ?_
          refine jg_adr _ rfl _ rfl rfl (op_move (.base rfl)) ?_
          refine jg_adr _ rfl _ rfl rfl (op_ext20 (.base rfl)) ?_
          refine jg_adr _ rfl _ rfl rfl (op_ext21 (.base rfl)) ?_
          refine jg_adr _ rfl _ rfl rfl (op_assign (.base rfl)) ?_
          refine jg_adr _ rfl _ rfl rfl (op_assign (.base rfl)) ?_
          refine jg_nil ?_
          rw [Nat.div_add_mod' _ _]
          refine jn_keep [3, 10, 13, 14, 15] [] (.cons rfl (.cons rfl (.cons rfl (.cons rfl (.cons rfl .nil))))) .nil ?_
          refine jn_seq (j_seq (j_seq ?_))
          refine j_region ?_
          refine jg_adr _ rfl _ rfl rfl (op_move (.base rfl)) ?_
          refine jg_adr _ rfl _ rfl rfl (op_gtr (.base rfl) (.base rfl)) ?_
          refine jg_nil ?_
          refine jn_keep [3, 10, 13, 14, 15, 60] [] (.cons rfl (.cons rfl (.cons rfl (.cons rfl (.cons rfl (.cons rfl .nil)))))) .nil ?_
          refine jn_seq ?_
          refine j_cond rfl (fun h13 => ?_) (fun h13 => ?_)
          · have k8 : 1000000000000000 < c.natAbs * num.natAbs / den.natAbs := by have := of_decide_eq_true h13; omega
            refine j_seq ?_
            refine j_region ?_
            refine jg_adr _ rfl _ rfl rfl (op_assign (.base rfl)) ?_
            refine jg_adr _ rfl _ rfl rfl (op_assign (.base rfl)) ?_
            refine jg_nil ?_
            refine jn_keep [8, 9] [] (.cons rfl (.cons rfl .nil)) .nil ?_
            refine jn_seq (j_ret (jr_seq ?_))
            exact jr_fin2 Try.results26 (res_tmp rfl) (res_tmp rfl) ⟨rfl, rfl⟩ (svI2_eq (by unfold mdR; rw [if_neg (by simp [h1]), if_neg h3, if_neg (by simp [h5]), if_pos (show 1000000000000000 < mdV c num den mode from Nat.lt_of_lt_of_le k8 (rndM_le _ _ _ _ _).2)]))
          · have k8 : c.natAbs * num.natAbs / den.natAbs ≤ 1000000000000000 := by have := of_decide_eq_false h13; omega
            refine j_skip (jn_seq (j_seq ?_))
            refine j_region ?_
            refine jg_adr _ rfl _ rfl rfl (op_move (.base rfl)) ?_
            refine jg_adr _ rfl _ rfl rfl (op_move (.base rfl)) ?_
            refine jg_adr _ rfl _ rfl rfl (op_move (.base rfl)) ?_
            refine jg_adr _ rfl _ rfl rfl (op_move (.base rfl)) ?_
            refine jg_adr _ rfl _ rfl rfl (op_move (.base rfl)) ?_
            refine jg_adr _ rfl _ rfl rfl (op_call (roundMag_ok _ _ _ _ _ (Nat.mod_lt _ kd) (by omega) (by omega)) (.cons (.base rfl) (.cons (.base rfl) (.cons (.base rfl) (.cons (.base rfl) (.cons (.base rfl) .nil))))) rfl rfl) ?_
            refine jg_adr _ rfl _ rfl rfl (op_assign (.base rfl)) ?_
            refine jg_nil ?_
            refine jn_keep [10, 14] [] (.cons rfl (.cons rfl .nil)) .nil ?_
            refine jn_seq (j_seq (j_seq ?_))
            refine j_region ?_
            refine jg_adr _ rfl _ rfl rfl (op_move (.base rfl)) ?_
            refine jg_adr _ rfl _ rfl rfl (op_gtr (.base rfl) (.base rfl)) ?_
            refine jg_nil ?_
            refine jn_keep [10, 14, 68] [] (.cons rfl (.cons rfl (.cons rfl .nil))) .nil ?_
            refine jn_seq ?_
            refine j_cond rfl (fun h16 => ?_) (fun h16 => ?_)
            · have k9 : 1000000000000000 < mdV c num den mode := by have := of_decide_eq_true h16; unfold mdV ngv3; omega
              refine j_seq ?_
              refine j_region ?_
              refine jg_adr _ rfl _ rfl rfl (op_assign (.base rfl)) ?_
              refine jg_adr _ rfl _ rfl rfl (op_assign (.base rfl)) ?_
              refine jg_nil ?_
              refine jn_keep [8, 9] [] (.cons rfl (.cons rfl .nil)) .nil ?_
              refine jn_seq (j_ret (jr_seq ?_))
              exact jr_fin2 Try.results26 (res_tmp rfl) (res_tmp rfl) ⟨rfl, rfl⟩ (svI2_eq (by unfold mdR; rw [if_neg (by simp [h1]), if_neg h3, if_neg (by simp [h5]), if_pos k9]))
            · have k9 : mdV c num den mode ≤ 1000000000000000 := by have := of_decide_eq_false h16; unfold mdV ngv3; omega
              refine j_skip (jn_seq (j_seq ?_))
              refine j_region ?_
              refine jg_adr _ rfl _ rfl rfl (op_move (.base rfl)) ?_
              refine jg_adr _ rfl _ rfl rfl (op_move (.base rfl)) ?_
              refine jg_adr _ rfl _ rfl rfl (op_call (signedM_ok (mdV c num den mode) (ngv3 c num den) (by omega)) (.cons (.base rfl) (.cons (.base rfl) .nil)) rfl rfl) ?_
              refine jg_adr _ rfl _ rfl rfl (op_assign (.base rfl)) ?_
              refine jg_adr _ rfl _ rfl rfl (op_assign (.base rfl)) ?_
              refine jg_nil ?_
              refine jn_keep [8, 9] [] (.cons rfl (.cons rfl .nil)) .nil ?_
              refine jn_seq (j_ret ?_)
              exact jr_fin2 Try.results26 (res_tmp rfl) (res_tmp rfl) ⟨rfl, rfl⟩ (svI2_eq (by unfold mdR; rw [if_neg (by simp [h1]), if_neg h3, if_neg (by simp [h5]), if_neg (by omega)]))

end Go.Proofs.Ytcdkmhmlpjnfeaa
