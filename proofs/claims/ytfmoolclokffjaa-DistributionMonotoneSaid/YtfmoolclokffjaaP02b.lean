import Derived.Test.YtfmoolclokffjaaP02a
import Derived.Test.YtfmoolclokffjaaDivN
import Derived.Test.YtfmoolclokffjaaShelf
import Derived.Lib.ItoaNum
namespace Go.Proofs.Ytfmoolclokffjaa
open Go.Eng
set_option maxRecDepth 100000
set_option maxHeartbeats 4000000
set_option linter.unusedVariables false
set_option linter.unusedSimpArgs false

theorem bitLen_spec {y : Nat} (h0 : 0 < y) (h : y < 18446744073709551616) : 1 ≤ Lib.bitLen y ∧ Lib.bitLen y ≤ 64 ∧ 2 ^ (Lib.bitLen y - 1) ≤ y ∧ y < 2 ^ Lib.bitLen y := by
  obtain ⟨a, b, c⟩ := Lib.bitLenAux_bounds 64 y h (by omega)
  exact ⟨a, Lib.bitLen_le y 64 (Nat.le_refl _) h, b, c⟩
theorem lz64_ok {y s : Nat} (h : y < 18446744073709551616) (hs : 64 - Lib.bitLen y = s) : Ct Try.prog 57 [.raw (.int .u64 (y : Nat))] (.raw (.int .i64 (s : Nat))) :=
  ⟨callFunc_enter Try.func57 rfl (by kernel_rfl), fun w ok0 vs hok ⟨v, vr, e, h1, h2⟩ => by
    have h1 : v = .int .u64 (y : Nat) := h1
    have h2 : vr = [] := h2
    subst h1 h2 e
    refine (Go.Proofs.Try.bits_LeadingZeros64 (y : Nat) w (by omega) (by omega)).mono ?_
    rintro e w' ⟨rfl, rfl⟩
    refine ⟨_, rfl, (Go.Eng.Below.refl _ _).toX, ?_⟩
    show _ = _
    have hl := Lib.bitLen_le y 64 (Nat.le_refl _) h
    congr 1
    rw [Int.toNat_natCast]; omega⟩
theorem mul64_ok {x y : Nat} (hx : x < 18446744073709551616) (hy : y < 18446744073709551616) : Ct Try.prog 39 [.raw (.int .u64 (x : Nat)), .raw (.int .u64 (y : Nat))] (.tup2 (.raw (.int .u64 ((x * y / 18446744073709551616) : Nat))) (.raw (.int .u64 ((x * y % 18446744073709551616) : Nat)))) :=
  ⟨callFunc_enter Try.func39 rfl (by kernel_rfl), fun w ok0 vs hok ⟨v, vr, e, h1, v2, vr2, e2, h2, h3⟩ => by
    have h1 : v = .int .u64 (x : Nat) := h1
    have h2 : v2 = .int .u64 (y : Nat) := h2
    have h3 : vr2 = [] := h3
    subst h1 h2 h3 e2 e
    refine (Go.Proofs.Try.bits_Mul64 x y hx hy w).mono ?_
    rintro e w' ⟨rfl, rfl⟩
    exact ⟨_, rfl, (Go.Eng.Below.refl _ _).toX, _, _, rfl, rfl, rfl⟩⟩
theorem toN {e : Int} {n m : Nat} (h : e = (n : Int)) (q : n = m) : e = (m : Int) := by rw [h, q]
theorem mul_mod {n m : Nat} : IntKind.u64.wrap ((n : Int) * (m : Int)) = ((n * m % 18446744073709551616 : Nat) : Int) := by
  rw [← Int.natCast_mul]; exact wu_mod _
theorem add_modl {n m : Nat} : IntKind.u64.wrap (((n % 18446744073709551616 : Nat) : Int) + (m : Int)) = (((n + m) % 18446744073709551616 : Nat) : Int) := by
  rw [← Int.natCast_add, wu_mod, Nat.mod_add_mod]
theorem wsub {a b c : Nat} (h : a = b + c) (hc : c < 18446744073709551616) : IntKind.u64.wrap (((a % 18446744073709551616 : Nat) : Int) - ((b % 18446744073709551616 : Nat) : Int)) = (c : Int) := by
  rw [IntKind.wrap_u64]; omega

theorem div64_small (hi lo y : Nat) (ky : 0 < y) (kl : lo < 18446744073709551616) (kh : hi = 0) : Ct Try.prog 40 [.raw (.int .u64 (hi : Nat)), .raw (.int .u64 (lo : Nat)), .raw (.int .u64 (y : Nat))] (.tup2 (.raw (.int .u64 ((lo / y) : Nat))) (.raw (.int .u64 ((lo % y) : Nat)))) := by
  refine ct_intro Try.func40 rfl rfl Try.ntmps40 rfl rfl ?_
  intro w0 ok0
  refine j_seq ?_
  refine j_region ?_
  refine jg_adr _ rfl _ rfl rfl (op_assign (.base rfl)) ?_
  refine jg_adr _ rfl _ rfl rfl (op_assign (.base rfl)) ?_
  refine jg_nil ?_
  refine jn_keep [0, 1, 2] [] (.cons rfl (.cons rfl (.cons rfl .nil))) .nil ?_
  refine jn_seq (j_seq (j_seq ?_))
  refine j_region ?_
  refine jg_adr _ rfl _ rfl rfl (op_move (.base rfl)) ?_
  refine jg_adr _ rfl _ rfl rfl (op_eql (.base rfl) (.base rfl)) ?_
  refine jg_nil ?_
  refine jn_keep [0, 1, 2, 20] [] (.cons rfl (.cons rfl (.cons rfl (.cons rfl .nil)))) .nil ?_
  refine jn_seq ?_
  refine j_cond rfl (fun h1 => ?_) (fun h1 => ?_)
  · exact absurd h1 (by simp; omega)
  · try simp at h1
    refine j_skip (jn_seq (j_seq (j_seq ?_)))
    refine j_region ?_
    refine jg_adr _ rfl _ rfl rfl (op_move (.base rfl)) ?_
    refine jg_adr _ rfl _ rfl rfl (op_move (.base rfl)) ?_
    refine jg_adr _ rfl _ rfl rfl (op_leq (.base rfl) (.base rfl)) ?_
    refine jg_nil ?_
    refine jn_keep [0, 1, 2, 24] [] (.cons rfl (.cons rfl (.cons rfl (.cons rfl .nil)))) .nil ?_
    refine jn_seq ?_
    refine j_cond rfl (fun h3 => ?_) (fun h3 => ?_)
    · exact absurd h3 (by simp; omega)
    · try simp at h3
      refine j_skip (jn_seq (j_seq (j_seq ?_)))
      refine j_region ?_
      refine jg_adr _ rfl _ rfl rfl (op_move (.base rfl)) ?_
      refine jg_adr _ rfl _ rfl rfl (op_eql (.base rfl) (.base rfl)) ?_
      refine jg_nil ?_
      refine jn_keep [0, 1, 2, 27] [] (.cons rfl (.cons rfl (.cons rfl (.cons rfl .nil)))) .nil ?_
      refine jn_seq ?_
      refine j_cond rfl (fun h5 => ?_) (fun h5 => ?_)
      · try simp at h5
        refine j_seq ?_
        refine j_draw mo (by kernel_rfl) (
          AS.cons _ _ rfl (ga_adr rfl rfl rfl (op_move (.base rfl))) (
            AS.cons _ _ rfl (ga_adr rfl rfl rfl (op_move (.base rfl))) (
            AS.cons _ _ rfl (ga_adr rfl rfl rfl (op_quo (.base rfl) (.base rfl) (by omega) (quo_nat kl))) (
            AS.cons _ _ rfl (ga_adr rfl rfl rfl (op_move (.base rfl))) (
            AS.cons _ _ rfl (ga_adr rfl rfl rfl (op_move (.base rfl))) (
            AS.cons _ _ rfl (ga_adr rfl rfl rfl (op_rem_e (.base rfl) (.base rfl) (by omega) rem_nat)) (
            AS.cons _ _ rfl (ga_adr rfl rfl rfl (op_assign (.base rfl))) (
            AS.cons _ _ rfl (ga_adr rfl rfl rfl (op_assign (.base rfl))) (
            AS.nil))))))))) ?_
        refine jn_keep [6, 7] [] (.cons rfl (.cons rfl .nil)) .nil ?_
        refine jn_seq (j_ret (jr_seq ?_))
        exact jr_fin2 Try.results40 (res_tmp rfl) (res_tmp rfl) ⟨rfl, rfl⟩ rfl
      · exact absurd h5 (by simp; omega)

theorem div64_core (hH lo y s Y yA b un32 un10 un1 un0 Q1 un21 Q0 RR : Nat) (ky : hH < y) (kh : 0 < hH) (kyM : y < 18446744073709551616) (kl : lo < 18446744073709551616) (ks : 64 - Lib.bitLen y = s) (ks1 : s ≤ 63) (kY : y * 2 ^ s % 18446744073709551616 = Y) (kYM : Y < 18446744073709551616) (kY0 : 0 < Y) (ka : Y / 2 ^ 32 = yA) (kb : Y % 4294967296 = b) (ka1 : 2147483648 ≤ yA) (ka2 : yA < 4294967296) (kb1 : b < 4294967296) (kYab : Y = yA * 4294967296 + b) (khM : hH * 2 ^ s < 18446744073709551616) (klo : lo / 2 ^ (64 - s) < 2 ^ s) (k32 : hH * 2 ^ s + lo / 2 ^ (64 - s) = un32) (ku32 : un32 < Y) (k10 : lo * 2 ^ s % 18446744073709551616 = un10) (k10M : un10 < 18446744073709551616) (k1 : un10 / 2 ^ 32 = un1) (k0 : un10 % 4294967296 = un0) (kun1b : un1 < 4294967296) (kun0b : un0 < 4294967296) (kQ1 : (un32 * 4294967296 + un1) / Y = Q1) (kd1 : un32 * 4294967296 + un1 = Q1 * Y + un21) (ku21 : un21 < Y) (kQ0 : (un21 * 4294967296 + un0) / Y = Q0) (kd0 : un21 * 4294967296 + un0 = Q0 * Y + RR) (kRR : RR < Y) (kQ1b : Q1 < 4294967296) (kQ0b : Q0 < 4294967296) (kun32 : un32 / yA * yA + un32 % yA = un32 ∧ (un32 * 4294967296 + un1) / Y ≤ un32 / yA ∧ un32 % yA < yA ∧ un32 / yA ≤ 4294967297) (kun21 : un21 / yA * yA + un21 % yA = un21 ∧ (un21 * 4294967296 + un0) / Y ≤ un21 / yA ∧ un21 % yA < yA ∧ un21 / yA ≤ 4294967297) : Ct Try.prog 40 [.raw (.int .u64 (hH : Nat)), .raw (.int .u64 (lo : Nat)), .raw (.int .u64 (y : Nat))] (.tup2 (.raw (.int .u64 ((Q1 * 4294967296 + Q0) : Nat))) (.raw (.int .u64 ((RR / 2 ^ s) : Nat)))) := by
  refine ct_intro Try.func40 rfl rfl Try.ntmps40 rfl rfl ?_
  intro w0 ok0
  refine j_seq ?_
  refine j_region ?_
  refine jg_adr _ rfl _ rfl rfl (op_assign (.base rfl)) ?_
  refine jg_adr _ rfl _ rfl rfl (op_assign (.base rfl)) ?_
  refine jg_nil ?_
  refine jn_keep [0, 1, 2] [] (.cons rfl (.cons rfl (.cons rfl .nil))) .nil ?_
  refine jn_seq (j_seq (j_seq ?_))
  refine j_region ?_
  refine jg_adr _ rfl _ rfl rfl (op_move (.base rfl)) ?_
  refine jg_adr _ rfl _ rfl rfl (op_eql (.base rfl) (.base rfl)) ?_
  refine jg_nil ?_
  refine jn_keep [0, 1, 2, 20] [] (.cons rfl (.cons rfl (.cons rfl (.cons rfl .nil)))) .nil ?_
  refine jn_seq ?_
  refine j_cond rfl (fun h1 => ?_) (fun h1 => ?_)
  · exact absurd h1 (by simp; omega)
  · try simp at h1
    refine j_skip (jn_seq (j_seq (j_seq ?_)))
    refine j_region ?_
    refine jg_adr _ rfl _ rfl rfl (op_move (.base rfl)) ?_
    refine jg_adr _ rfl _ rfl rfl (op_move (.base rfl)) ?_
    refine jg_adr _ rfl _ rfl rfl (op_leq (.base rfl) (.base rfl)) ?_
    refine jg_nil ?_
    refine jn_keep [0, 1, 2, 24] [] (.cons rfl (.cons rfl (.cons rfl (.cons rfl .nil)))) .nil ?_
    refine jn_seq ?_
    refine j_cond rfl (fun h3 => ?_) (fun h3 => ?_)
    · exact absurd h3 (by simp; omega)
    · try simp at h3
      refine j_skip (jn_seq (j_seq (j_seq ?_)))
      refine j_region ?_
      refine jg_adr _ rfl _ rfl rfl (op_move (.base rfl)) ?_
      refine jg_adr _ rfl _ rfl rfl (op_eql (.base rfl) (.base rfl)) ?_
      refine jg_nil ?_
      refine jn_keep [0, 1, 2, 27] [] (.cons rfl (.cons rfl (.cons rfl (.cons rfl .nil)))) .nil ?_
      refine jn_seq ?_
      refine j_cond rfl (fun h5 => ?_) (fun h5 => ?_)
      · exact absurd h5 (by simp; omega)
      · try simp at h5
        refine j_skip (jn_seq (j_seq ?_))
        refine j_region ?_
        refine jg_adr _ rfl _ rfl rfl (op_move (.base rfl)) ?_
        refine jg_adr _ rfl _ rfl rfl (op_call (lz64_ok kyM ks) (.cons (.base rfl) .nil) rfl rfl) ?_
        refine jg_adr _ rfl _ rfl rfl (op_conv ⟨_, Try.underlying3⟩ Try.underlying53 (.base rfl) (wu (by omega))) ?_
        refine jg_adr _ rfl _ rfl rfl (op_assign (.base rfl)) ?_
        refine jg_nil ?_
        refine jn_keep [0, 1, 2, 8] [] (.cons rfl (.cons rfl (.cons rfl (.cons rfl .nil)))) .nil ?_
        refine jn_seq (j_seq ?_)
        refine j_region ?_
        refine jg_adr _ rfl _ rfl rfl (op_move (.base rfl)) ?_
        refine jg_adr _ rfl _ rfl rfl (op_move (.base rfl)) ?_
        refine jg_adr _ rfl _ rfl rfl (op_shl (.base rfl) (.base rfl) (by omega) (toN (shl_nat (by omega)) kY)) ?_
        refine jg_adr _ rfl _ rfl rfl (op_assign (.base rfl)) ?_
        refine jg_nil ?_
        refine jn_keep [0, 1, 2, 8] [] (.cons rfl (.cons rfl (.cons rfl (.cons rfl .nil)))) .nil ?_
        refine jn_seq (j_seq ?_)
        refine j_region ?_
        refine jg_adr _ rfl _ rfl rfl (op_move (.base rfl)) ?_
        refine jg_adr _ rfl _ rfl rfl (op_shr (.base rfl) (.base rfl) (by omega) (toN (shr_nat (s := 32) (by omega)) ka)) ?_
        refine jg_adr _ rfl _ rfl rfl (op_assign (.base rfl)) ?_
        refine jg_nil ?_
        refine jn_keep [0, 1, 2, 8, 9] [] (.cons rfl (.cons rfl (.cons rfl (.cons rfl (.cons rfl .nil))))) .nil ?_
        refine jn_seq (j_seq ?_)
        refine j_region ?_
        refine jg_adr _ rfl _ rfl rfl (op_move (.base rfl)) ?_
        refine jg_adr _ rfl _ rfl rfl (op_and (.base rfl) (.base rfl) (toN (and_mask kYM) kb)) ?_
        refine jg_adr _ rfl _ rfl rfl (op_assign (.base rfl)) ?_
        refine jg_nil ?_
        refine jn_keep [0, 1, 2, 8, 9, 10] [] (.cons rfl (.cons rfl (.cons rfl (.cons rfl (.cons rfl (.cons rfl .nil)))))) .nil ?_
        refine jn_seq (j_seq ?_)
        refine j_region ?_
        refine jg_adr _ rfl _ rfl rfl (op_move (.base rfl)) ?_
        refine jg_adr _ rfl _ rfl rfl (op_move (.base rfl)) ?_
        refine jg_adr _ rfl _ rfl rfl (op_shl (.base rfl) (.base rfl) (by omega) (toN (shl_nat (by omega)) (Nat.mod_eq_of_lt khM))) ?_
        refine jg_adr _ rfl _ rfl rfl (op_move (.base rfl)) ?_
        refine jg_adr _ rfl _ rfl rfl (op_move (.base rfl)) ?_
        refine jg_adr _ rfl _ rfl rfl (op_sub (.base rfl) (.base rfl) (sub_nat (n := 64) (by omega) (by omega))) ?_
        refine jg_adr _ rfl _ rfl rfl (op_shr (.base rfl) (.base rfl) (by omega) (shr_nat (by omega))) ?_
        refine jg_adr _ rfl _ rfl rfl (op_or (.base rfl) (.base rfl) (toN (or_add klo (by rw [k32]; omega)) k32)) ?_
        refine jg_adr _ rfl _ rfl rfl (op_assign (.base rfl)) ?_
        refine jg_nil ?_
        refine jn_keep [1, 2, 8, 9, 10, 11] [] (.cons rfl (.cons rfl (.cons rfl (.cons rfl (.cons rfl (.cons rfl .nil)))))) .nil ?_
        refine jn_seq (j_seq ?_)
        refine j_region ?_
        refine jg_adr _ rfl _ rfl rfl (op_move (.base rfl)) ?_
        refine jg_adr _ rfl _ rfl rfl (op_move (.base rfl)) ?_
        refine jg_adr _ rfl _ rfl rfl (op_shl (.base rfl) (.base rfl) (by omega) (toN (shl_nat (by omega)) k10)) ?_
        refine jg_adr _ rfl _ rfl rfl (op_assign (.base rfl)) ?_
        refine jg_nil ?_
        refine jn_keep [2, 8, 9, 10, 11, 12] [] (.cons rfl (.cons rfl (.cons rfl (.cons rfl (.cons rfl (.cons rfl .nil)))))) .nil ?_
        refine jn_seq (j_seq ?_)
        refine j_region ?_
        refine jg_adr _ rfl _ rfl rfl (op_move (.base rfl)) ?_
        refine jg_adr _ rfl _ rfl rfl (op_shr (.base rfl) (.base rfl) (by omega) (toN (shr_nat (s := 32) (by omega)) k1)) ?_
        refine jg_adr _ rfl _ rfl rfl (op_assign (.base rfl)) ?_
        refine jg_nil ?_
        refine jn_keep [2, 8, 9, 10, 11, 12, 13] [] (.cons rfl (.cons rfl (.cons rfl (.cons rfl (.cons rfl (.cons rfl (.cons rfl .nil))))))) .nil ?_
        refine jn_seq (j_seq ?_)
        refine j_region ?_
        refine jg_adr _ rfl _ rfl rfl (op_move (.base rfl)) ?_
        refine jg_adr _ rfl _ rfl rfl (op_and (.base rfl) (.base rfl) (toN (and_mask (by omega)) k0)) ?_
        refine jg_adr _ rfl _ rfl rfl (op_assign (.base rfl)) ?_
        refine jg_nil ?_
        refine jn_keep [2, 8, 9, 10, 11, 13, 14] [] (.cons rfl (.cons rfl (.cons rfl (.cons rfl (.cons rfl (.cons rfl (.cons rfl .nil))))))) .nil ?_
        refine jn_seq (j_seq ?_)
        refine j_region ?_
        refine jg_adr _ rfl _ rfl rfl (op_move (.base rfl)) ?_
        refine jg_adr _ rfl _ rfl rfl (op_move (.base rfl)) ?_
        refine jg_adr _ rfl _ rfl rfl (op_quo (.base rfl) (.base rfl) (by omega) (quo_nat (by omega))) ?_
        refine jg_adr _ rfl _ rfl rfl (op_assign (.base rfl)) ?_
        refine jg_nil ?_
        refine jn_keep [2, 8, 9, 10, 11, 13, 14, 15] [] (.cons rfl (.cons rfl (.cons rfl (.cons rfl (.cons rfl (.cons rfl (.cons rfl (.cons rfl .nil)))))))) .nil ?_
        refine jn_seq (j_seq ?_)
        refine j_region ?_
        refine jg_adr _ rfl _ rfl rfl (op_move (.base rfl)) ?_
        refine jg_adr _ rfl _ rfl rfl (op_move (.base rfl)) ?_
        refine jg_adr _ rfl _ rfl rfl (op_move (.base rfl)) ?_
        refine jg_adr _ rfl _ rfl rfl (op_mul (.base rfl) (.base rfl) (mul_nat (by omega))) ?_
        refine jg_adr _ rfl _ rfl rfl (op_sub (.base rfl) (.base rfl) (toN (sub_nat (by omega) (by omega)) (show un32 - un32 / yA * yA = un32 % yA by omega))) ?_
        refine jg_adr _ rfl _ rfl rfl (op_assign (.base rfl)) ?_
        refine jg_nil ?_
        refine jn_keep [2, 8, 9, 10, 11, 13, 14, 15, 16] [] (.cons rfl (.cons rfl (.cons rfl (.cons rfl (.cons rfl (.cons rfl (.cons rfl (.cons rfl (.cons rfl .nil))))))))) .nil ?_
        refine jn_seq (j_seq ?_)
        refine j_cut (ι := Unit) (fun _ => ⟨[(2, .raw (.int .u64 (Y : Nat))), (8, .raw (.int .u64 (s : Nat))), (9, .raw (.int .u64 (yA : Nat))), (10, .raw (.int .u64 (b : Nat))), (13, .raw (.int .u64 (un1 : Nat))), (14, .raw (.int .u64 (un0 : Nat))), (11, .raw (.int .u64 (un32 : Nat))), (15, .raw (.int .u64 (Q1 : Nat)))], []⟩) (fun _ => True) ?_ ?_
        · skip
          refine j_block ?_
          refine j_loopp (ι := Nat × Nat) (fun (q, r) => ⟨[(2, .raw (.int .u64 (Y : Nat))), (8, .raw (.int .u64 (s : Nat))), (9, .raw (.int .u64 (yA : Nat))), (10, .raw (.int .u64 (b : Nat))), (13, .raw (.int .u64 (un1 : Nat))), (14, .raw (.int .u64 (un0 : Nat))), (11, .raw (.int .u64 (un32 : Nat))), (15, .raw (.int .u64 (q : Nat))), (16, .raw (.int .u64 (r : Nat)))], []⟩) (fun (q, r) => q * yA + r = un32 ∧ Q1 ≤ q ∧ r < 4294967296 ∧ q ≤ 4294967297) (fun (q, r) => q) (un32 / yA, un32 % yA) (⟨kun32.1, kQ1 ▸ kun32.2.1, Nat.lt_trans kun32.2.2.1 ka2, kun32.2.2.2⟩) (fun a w hi => (Sub.inv ⟨(by repeat (first | exact SubS_nil | refine SubS_cons rfl (by first | rfl | (simp; done) | assumption) ?_)), (by repeat (first | exact SubH_nil | refine SubH_cons rfl (by first | rfl | (simp; done) | assumption) ?_))⟩ hi)) ?_
          rintro ⟨q, r⟩ ⟨p1, p2, p3, p4⟩
          refine j_seq (j_seq ?_)
          refine j_region ?_
          refine jg_adr _ rfl _ rfl rfl (op_move (.base rfl)) ?_
          refine jg_adr _ rfl _ rfl rfl (op_geq (.base rfl) (.base rfl)) ?_
          refine jg_adr _ rfl _ rfl rfl (op_move (.base rfl)) ?_
          refine jg_gd _ _ _ _ _ _ rfl rfl rfl rfl rfl (fun hg => op_move (.base rfl)) ?_
          refine jg_gd _ _ _ _ _ _ rfl rfl rfl rfl rfl (fun hg => op_move (.base rfl)) ?_
          refine jg_gd _ _ _ _ _ _ rfl rfl rfl rfl rfl (fun hg => op_mul (.gd rfl hg) (.gd rfl hg) (mul_nat (dv_prod kb1 p4))) ?_
          refine jg_gd _ _ _ _ _ _ rfl rfl rfl rfl rfl (fun hg => op_move (.base rfl)) ?_
          refine jg_gd _ _ _ _ _ _ rfl rfl rfl rfl rfl (fun hg => op_mul (.base rfl) (.gd rfl hg) (mul_nat (n := 4294967296) (by omega))) ?_
          refine jg_gd _ _ _ _ _ _ rfl rfl rfl rfl rfl (fun hg => op_move (.base rfl)) ?_
          refine jg_gd _ _ _ _ _ _ rfl rfl rfl rfl rfl (fun hg => op_add (.gd rfl hg) (.gd rfl hg) (add_nat (by omega))) ?_
          refine jg_gd _ _ _ _ _ _ rfl rfl rfl rfl rfl (fun hg => op_gtr (.gd rfl hg) (.gd rfl hg)) ?_
          refine jg_adr _ rfl _ rfl rfl (op_pick_or (.base rfl) (.base rfl) rfl (by intro h; first | (rw [h]; rfl) | (rw [hg, h]; rfl) | (rw [h, hg]; rfl) | simp_all)) ?_
          refine jg_nil ?_
          refine jn_keep [2, 8, 9, 10, 11, 13, 14, 15, 16, 78] [] (.cons rfl (.cons rfl (.cons rfl (.cons rfl (.cons rfl (.cons rfl (.cons rfl (.cons rfl (.cons rfl (.cons rfl .nil)))))))))) .nil ?_
          refine jn_seq ?_
          refine j_cond rfl (fun h17 => ?_) (fun h17 => ?_)
          · have k1 : 4294967296 ≤ q ∨ 4294967296 * r + un1 < q * b := by simp at h17; omega
            have k2 : Q1 < q := by rw [← kQ1]; exact dv_true kYab ku32 kun1b p1 k1
            refine j_skip (jn_seq (j_block (j_seq ?_)))
            refine j_region ?_
            refine jg_adr _ rfl _ rfl rfl (op_move (.base rfl)) ?_
            refine jg_adr _ rfl _ rfl rfl (op_sub (.base rfl) (.base rfl) (sub_nat (m := 1) (by omega) (by omega))) ?_
            refine jg_adr _ rfl _ rfl rfl (op_assign (.base rfl)) ?_
            refine jg_nil ?_
            refine jn_keep [2, 8, 9, 10, 11, 13, 14, 15, 16] [] (.cons rfl (.cons rfl (.cons rfl (.cons rfl (.cons rfl (.cons rfl (.cons rfl (.cons rfl (.cons rfl .nil))))))))) .nil ?_
            refine jn_seq (j_seq ?_)
            refine j_region ?_
            refine jg_adr _ rfl _ rfl rfl (op_move (.base rfl)) ?_
            refine jg_adr _ rfl _ rfl rfl (op_move (.base rfl)) ?_
            refine jg_adr _ rfl _ rfl rfl (op_add (.base rfl) (.base rfl) (add_nat (by omega))) ?_
            refine jg_adr _ rfl _ rfl rfl (op_assign (.base rfl)) ?_
            refine jg_nil ?_
            refine jn_keep [2, 8, 9, 10, 11, 13, 14, 15, 16] [] (.cons rfl (.cons rfl (.cons rfl (.cons rfl (.cons rfl (.cons rfl (.cons rfl (.cons rfl (.cons rfl .nil))))))))) .nil ?_
            refine jn_seq (j_seq ?_)
            refine j_region ?_
            refine jg_adr _ rfl _ rfl rfl (op_move (.base rfl)) ?_
            refine jg_adr _ rfl _ rfl rfl (op_geq (.base rfl) (.base rfl)) ?_
            refine jg_nil ?_
            refine jn_keep [2, 8, 9, 10, 11, 13, 14, 15, 16, 85] [] (.cons rfl (.cons rfl (.cons rfl (.cons rfl (.cons rfl (.cons rfl (.cons rfl (.cons rfl (.cons rfl (.cons rfl .nil)))))))))) .nil ?_
            refine jn_seq ?_
            refine j_cond rfl (fun h20 => ?_) (fun h20 => ?_)
            · have k3 : 4294967296 ≤ r + yA := by simp at h20; omega
              have k4 : q - 1 ≤ Q1 := by rw [← kQ1]; exact dv_brk kYab kY0 kb1 (dv_dec p1 (by omega)) (by omega) k3
              refine j_exit (je_other rfl (je_loop (je_blk ?_)))
              exact jn_loop (fun a w hi => ⟨(), trivial, Sub.inv ⟨(by repeat (first | exact SubS_nil | refine SubS_cons rfl (by first | rfl | exact ri (by omega)) ?_)), (by repeat (first | exact SubH_nil | refine SubH_cons rfl (by first | rfl | (simp; done) | assumption) ?_))⟩ hi⟩)
            · have k3 : r + yA < 4294967296 := by simp at h20; omega
              refine j_skip (jn_blk ?_)
              exact jn_loop (fun a w hi => ⟨(q - 1, r + yA), (by show q - 1 < q; omega), ⟨dv_dec p1 (by omega), by omega, by omega, by omega⟩, Sub.inv ⟨(by repeat (first | exact SubS_nil | refine SubS_cons rfl (by first | rfl | (simp; done) | assumption) ?_)), (by repeat (first | exact SubH_nil | refine SubH_cons rfl (by first | rfl | (simp; done) | assumption) ?_))⟩ hi⟩)
          · have k1 : q < 4294967296 ∧ q * b ≤ 4294967296 * r + un1 := by simp at h17; omega
            have k2 : q ≤ Q1 := by rw [← kQ1]; exact dv_le kYab kY0 p1 k1.2
            refine j_exit (je_seq (je_loop (je_blk ?_)))
            exact jn_loop (fun a w hi => ⟨(), trivial, Sub.inv ⟨(by repeat (first | exact SubS_nil | refine SubS_cons rfl (by first | rfl | exact ri (by omega)) ?_)), (by repeat (first | exact SubH_nil | refine SubH_cons rfl (by first | rfl | (simp; done) | assumption) ?_))⟩ hi⟩)
        · rintro _ -
          refine jn_seq (j_seq ?_)
          refine j_region ?_
          refine jg_adr _ rfl _ rfl rfl (op_move (.base rfl)) ?_
          refine jg_adr _ rfl _ rfl rfl (op_mul (.base rfl) (.base rfl) (mul_mod (m := 4294967296))) ?_
          refine jg_adr _ rfl _ rfl rfl (op_move (.base rfl)) ?_
          refine jg_adr _ rfl _ rfl rfl (op_add (.base rfl) (.base rfl) add_modl) ?_
          refine jg_adr _ rfl _ rfl rfl (op_move (.base rfl)) ?_
          refine jg_adr _ rfl _ rfl rfl (op_move (.base rfl)) ?_
          refine jg_adr _ rfl _ rfl rfl (op_mul (.base rfl) (.base rfl) mul_mod) ?_
          refine jg_adr _ rfl _ rfl rfl (op_sub (.base rfl) (.base rfl) (wsub kd1 (by omega))) ?_
          refine jg_adr _ rfl _ rfl rfl (op_assign (.base rfl)) ?_
          refine jg_nil ?_
          refine jn_keep [2, 8, 9, 10, 14, 15, 17] [] (.cons rfl (.cons rfl (.cons rfl (.cons rfl (.cons rfl (.cons rfl (.cons rfl .nil))))))) .nil ?_
          refine jn_seq (j_seq ?_)
          refine j_region ?_
          refine jg_adr _ rfl _ rfl rfl (op_move (.base rfl)) ?_
          refine jg_adr _ rfl _ rfl rfl (op_move (.base rfl)) ?_
          refine jg_adr _ rfl _ rfl rfl (op_quo (.base rfl) (.base rfl) (by omega) (quo_nat (by omega))) ?_
          refine jg_adr _ rfl _ rfl rfl (op_assign (.base rfl)) ?_
          refine jg_nil ?_
          refine jn_keep [2, 8, 9, 10, 14, 15, 17, 18] [] (.cons rfl (.cons rfl (.cons rfl (.cons rfl (.cons rfl (.cons rfl (.cons rfl (.cons rfl .nil)))))))) .nil ?_
          refine jn_seq (j_seq ?_)
          refine j_region ?_
          refine jg_adr _ rfl _ rfl rfl (op_move (.base rfl)) ?_
          refine jg_adr _ rfl _ rfl rfl (op_move (.base rfl)) ?_
          refine jg_adr _ rfl _ rfl rfl (op_move (.base rfl)) ?_
          refine jg_adr _ rfl _ rfl rfl (op_mul (.base rfl) (.base rfl) (mul_nat (by omega))) ?_
          refine jg_adr _ rfl _ rfl rfl (op_sub (.base rfl) (.base rfl) (toN (sub_nat (by omega) (by omega)) (show un21 - un21 / yA * yA = un21 % yA by omega))) ?_
          refine jg_adr _ rfl _ rfl rfl (op_assign (.base rfl)) ?_
          refine jg_nil ?_
          refine jn_keep [2, 8, 9, 10, 14, 15, 16, 17, 18] [] (.cons rfl (.cons rfl (.cons rfl (.cons rfl (.cons rfl (.cons rfl (.cons rfl (.cons rfl (.cons rfl .nil))))))))) .nil ?_
          refine jn_seq (j_seq ?_)
          refine j_cut (ι := Unit) (fun _ => ⟨[(2, .raw (.int .u64 (Y : Nat))), (8, .raw (.int .u64 (s : Nat))), (9, .raw (.int .u64 (yA : Nat))), (10, .raw (.int .u64 (b : Nat))), (14, .raw (.int .u64 (un0 : Nat))), (15, .raw (.int .u64 (Q1 : Nat))), (17, .raw (.int .u64 (un21 : Nat))), (18, .raw (.int .u64 (Q0 : Nat)))], []⟩) (fun _ => True) ?_ ?_
          · skip
            refine j_block ?_
            refine j_loopp (ι := Nat × Nat) (fun (q, r) => ⟨[(2, .raw (.int .u64 (Y : Nat))), (8, .raw (.int .u64 (s : Nat))), (9, .raw (.int .u64 (yA : Nat))), (10, .raw (.int .u64 (b : Nat))), (14, .raw (.int .u64 (un0 : Nat))), (15, .raw (.int .u64 (Q1 : Nat))), (17, .raw (.int .u64 (un21 : Nat))), (18, .raw (.int .u64 (q : Nat))), (16, .raw (.int .u64 (r : Nat)))], []⟩) (fun (q, r) => q * yA + r = un21 ∧ Q0 ≤ q ∧ r < 4294967296 ∧ q ≤ 4294967297) (fun (q, r) => q) (un21 / yA, un21 % yA) (⟨kun21.1, kQ0 ▸ kun21.2.1, Nat.lt_trans kun21.2.2.1 ka2, kun21.2.2.2⟩) (fun a w hi => (Sub.inv ⟨(by repeat (first | exact SubS_nil | refine SubS_cons rfl (by first | rfl | (simp; done) | assumption) ?_)), (by repeat (first | exact SubH_nil | refine SubH_cons rfl (by first | rfl | (simp; done) | assumption) ?_))⟩ hi)) ?_
            rintro ⟨q, r⟩ ⟨p1, p2, p3, p4⟩
            refine j_seq (j_seq ?_)
            refine j_region ?_
            refine jg_adr _ rfl _ rfl rfl (op_move (.base rfl)) ?_
            refine jg_adr _ rfl _ rfl rfl (op_geq (.base rfl) (.base rfl)) ?_
            refine jg_adr _ rfl _ rfl rfl (op_move (.base rfl)) ?_
            refine jg_gd _ _ _ _ _ _ rfl rfl rfl rfl rfl (fun hg => op_move (.base rfl)) ?_
            refine jg_gd _ _ _ _ _ _ rfl rfl rfl rfl rfl (fun hg => op_move (.base rfl)) ?_
            refine jg_gd _ _ _ _ _ _ rfl rfl rfl rfl rfl (fun hg => op_mul (.gd rfl hg) (.gd rfl hg) (mul_nat (dv_prod kb1 p4))) ?_
            refine jg_gd _ _ _ _ _ _ rfl rfl rfl rfl rfl (fun hg => op_move (.base rfl)) ?_
            refine jg_gd _ _ _ _ _ _ rfl rfl rfl rfl rfl (fun hg => op_mul (.base rfl) (.gd rfl hg) (mul_nat (n := 4294967296) (by omega))) ?_
            refine jg_gd _ _ _ _ _ _ rfl rfl rfl rfl rfl (fun hg => op_move (.base rfl)) ?_
            refine jg_gd _ _ _ _ _ _ rfl rfl rfl rfl rfl (fun hg => op_add (.gd rfl hg) (.gd rfl hg) (add_nat (by omega))) ?_
            refine jg_gd _ _ _ _ _ _ rfl rfl rfl rfl rfl (fun hg => op_gtr (.gd rfl hg) (.gd rfl hg)) ?_
            refine jg_adr _ rfl _ rfl rfl (op_pick_or (.base rfl) (.base rfl) rfl (by intro h; first | (rw [h]; rfl) | (rw [hg, h]; rfl) | (rw [h, hg]; rfl) | simp_all)) ?_
            refine jg_nil ?_
            refine jn_keep [2, 8, 9, 10, 14, 15, 16, 17, 18, 113] [] (.cons rfl (.cons rfl (.cons rfl (.cons rfl (.cons rfl (.cons rfl (.cons rfl (.cons rfl (.cons rfl (.cons rfl .nil)))))))))) .nil ?_
            refine jn_seq ?_
            refine j_cond rfl (fun h24 => ?_) (fun h24 => ?_)
            · have k1 : 4294967296 ≤ q ∨ 4294967296 * r + un0 < q * b := by simp at h24; omega
              have k2 : Q0 < q := by rw [← kQ0]; exact dv_true kYab ku21 kun0b p1 k1
              refine j_skip (jn_seq (j_block (j_seq ?_)))
              refine j_region ?_
              refine jg_adr _ rfl _ rfl rfl (op_move (.base rfl)) ?_
              refine jg_adr _ rfl _ rfl rfl (op_sub (.base rfl) (.base rfl) (sub_nat (m := 1) (by omega) (by omega))) ?_
              refine jg_adr _ rfl _ rfl rfl (op_assign (.base rfl)) ?_
              refine jg_nil ?_
              refine jn_keep [2, 8, 9, 10, 14, 15, 16, 17, 18] [] (.cons rfl (.cons rfl (.cons rfl (.cons rfl (.cons rfl (.cons rfl (.cons rfl (.cons rfl (.cons rfl .nil))))))))) .nil ?_
              refine jn_seq (j_seq ?_)
              refine j_region ?_
              refine jg_adr _ rfl _ rfl rfl (op_move (.base rfl)) ?_
              refine jg_adr _ rfl _ rfl rfl (op_move (.base rfl)) ?_
              refine jg_adr _ rfl _ rfl rfl (op_add (.base rfl) (.base rfl) (add_nat (by omega))) ?_
              refine jg_adr _ rfl _ rfl rfl (op_assign (.base rfl)) ?_
              refine jg_nil ?_
              refine jn_keep [2, 8, 9, 10, 14, 15, 16, 17, 18] [] (.cons rfl (.cons rfl (.cons rfl (.cons rfl (.cons rfl (.cons rfl (.cons rfl (.cons rfl (.cons rfl .nil))))))))) .nil ?_
              refine jn_seq (j_seq ?_)
              refine j_region ?_
              refine jg_adr _ rfl _ rfl rfl (op_move (.base rfl)) ?_
              refine jg_adr _ rfl _ rfl rfl (op_geq (.base rfl) (.base rfl)) ?_
              refine jg_nil ?_
              refine jn_keep [2, 8, 9, 10, 14, 15, 16, 17, 18, 120] [] (.cons rfl (.cons rfl (.cons rfl (.cons rfl (.cons rfl (.cons rfl (.cons rfl (.cons rfl (.cons rfl (.cons rfl .nil)))))))))) .nil ?_
              refine jn_seq ?_
              refine j_cond rfl (fun h27 => ?_) (fun h27 => ?_)
              · have k3 : 4294967296 ≤ r + yA := by simp at h27; omega
                have k4 : q - 1 ≤ Q0 := by rw [← kQ0]; exact dv_brk kYab kY0 kb1 (dv_dec p1 (by omega)) (by omega) k3
                refine j_exit (je_other rfl (je_loop (je_blk ?_)))
                exact jn_loop (fun a w hi => ⟨(), trivial, Sub.inv ⟨(by repeat (first | exact SubS_nil | refine SubS_cons rfl (by first | rfl | exact ri (by omega)) ?_)), (by repeat (first | exact SubH_nil | refine SubH_cons rfl (by first | rfl | (simp; done) | assumption) ?_))⟩ hi⟩)
              · have k3 : r + yA < 4294967296 := by simp at h27; omega
                refine j_skip (jn_blk ?_)
                exact jn_loop (fun a w hi => ⟨(q - 1, r + yA), (by show q - 1 < q; omega), ⟨dv_dec p1 (by omega), by omega, by omega, by omega⟩, Sub.inv ⟨(by repeat (first | exact SubS_nil | refine SubS_cons rfl (by first | rfl | (simp; done) | assumption) ?_)), (by repeat (first | exact SubH_nil | refine SubH_cons rfl (by first | rfl | (simp; done) | assumption) ?_))⟩ hi⟩)
            · have k1 : q < 4294967296 ∧ q * b ≤ 4294967296 * r + un0 := by simp at h24; omega
              have k2 : q ≤ Q0 := by rw [← kQ0]; exact dv_le kYab kY0 p1 k1.2
              refine j_exit (je_seq (je_loop (je_blk ?_)))
              exact jn_loop (fun a w hi => ⟨(), trivial, Sub.inv ⟨(by repeat (first | exact SubS_nil | refine SubS_cons rfl (by first | rfl | exact ri (by omega)) ?_)), (by repeat (first | exact SubH_nil | refine SubH_cons rfl (by first | rfl | (simp; done) | assumption) ?_))⟩ hi⟩)
          · rintro _ -
            refine jn_seq (j_seq ?_)
            refine j_region ?_
            refine jg_adr _ rfl _ rfl rfl (op_move (.base rfl)) ?_
            refine jg_adr _ rfl _ rfl rfl (op_mul (.base rfl) (.base rfl) (mul_nat (m := 4294967296) (by omega))) ?_
            refine jg_adr _ rfl _ rfl rfl (op_move (.base rfl)) ?_
            refine jg_adr _ rfl _ rfl rfl (op_add (.base rfl) (.base rfl) (add_nat (by omega))) ?_
            refine jg_adr _ rfl _ rfl rfl (op_move (.base rfl)) ?_
            refine jg_adr _ rfl _ rfl rfl (op_mul (.base rfl) (.base rfl) (mul_mod (m := 4294967296))) ?_
            refine jg_adr _ rfl _ rfl rfl (op_move (.base rfl)) ?_
            refine jg_adr _ rfl _ rfl rfl (op_add (.base rfl) (.base rfl) add_modl) ?_
            refine jg_adr _ rfl _ rfl rfl (op_move (.base rfl)) ?_
            refine jg_adr _ rfl _ rfl rfl (op_move (.base rfl)) ?_
            refine jg_adr _ rfl _ rfl rfl (op_mul (.base rfl) (.base rfl) mul_mod) ?_
            refine jg_adr _ rfl _ rfl rfl (op_sub (.base rfl) (.base rfl) (wsub kd0 (by omega))) ?_
            refine jg_adr _ rfl _ rfl rfl (op_move (.base rfl)) ?_
            refine jg_adr _ rfl _ rfl rfl (op_shr (.base rfl) (.base rfl) (by omega) (shr_nat (by omega))) ?_
            refine jg_adr _ rfl _ rfl rfl (op_assign (.base rfl)) ?_
            refine jg_adr _ rfl _ rfl rfl (op_assign (.base rfl)) ?_
            refine jg_nil ?_
            refine jn_keep [6, 7] [] (.cons rfl (.cons rfl .nil)) .nil ?_
            refine jn_seq (j_ret ?_)
            exact jr_fin2 Try.results40 (res_tmp rfl) (res_tmp rfl) ⟨rfl, rfl⟩ rfl

theorem div64_ok {hi lo y : Nat} (ky : hi < y) (kyM : y < 18446744073709551616) (kl : lo < 18446744073709551616) :
    Ct Try.prog 40 [.raw (.int .u64 (hi : Nat)), .raw (.int .u64 (lo : Nat)), .raw (.int .u64 (y : Nat))] (.tup2 (.raw (.int .u64 (((hi * 18446744073709551616 + lo) / y) : Nat))) (.raw (.int .u64 (((hi * 18446744073709551616 + lo) % y) : Nat)))) := by
  by_cases h0 : hi = 0
  · have h := div64_small hi lo y (by omega) kl h0
    rw [h0, Nat.zero_mul, Nat.zero_add]; rw [h0] at h; exact h
  · obtain ⟨g1, g2, g3, g4⟩ := bitLen_spec (y := y) (by omega) kyM
    obtain ⟨L, hLL⟩ : ∃ L, Lib.bitLen y = L := ⟨_, rfl⟩
    rw [hLL] at g1 g2 g3 g4
    obtain ⟨s, hs⟩ : ∃ s, 64 - L = s := ⟨_, rfl⟩
    have hp : 0 < 2 ^ s := Nat.pow_pos (by decide)
    have e64 : 2 ^ L * 2 ^ s = 18446744073709551616 := by rw [← Nat.pow_add, show L + s = 64 by omega]
    have e63 : 2 ^ (L - 1) * 2 ^ s = 9223372036854775808 := by rw [← Nat.pow_add, show L - 1 + s = 63 by omega]
    have f64 : 2 ^ (64 - s) * 2 ^ s = 18446744073709551616 := by rw [← Nat.pow_add, show 64 - s + s = 64 by omega]
    have hY : y * 2 ^ s < 18446744073709551616 := by rw [← e64]; exact (Nat.mul_lt_mul_right hp).2 g4
    have hY2 : 9223372036854775808 ≤ y * 2 ^ s := by rw [← e63]; exact Nat.mul_le_mul_right _ g3
    have hH : hi * 2 ^ s < 18446744073709551616 := Nat.lt_of_le_of_lt (Nat.mul_le_mul_right _ (by omega)) hY
    have hlo : lo / 2 ^ (64 - s) < 2 ^ s := by rw [Nat.div_lt_iff_lt_mul (Nat.pow_pos (by decide)), Nat.mul_comm, f64]; exact kl
    have hu : hi * 2 ^ s + lo / 2 ^ (64 - s) < y * 2 ^ s := by
      have h5 : (hi + 1) * 2 ^ s ≤ y * 2 ^ s := Nat.mul_le_mul_right _ ky
      rw [Nat.add_mul] at h5; omega
    obtain ⟨Y, eY⟩ : ∃ Y, y * 2 ^ s = Y := ⟨_, rfl⟩
    obtain ⟨un32, e32⟩ : ∃ u, hi * 2 ^ s + lo / 2 ^ (64 - s) = u := ⟨_, rfl⟩
    obtain ⟨un10, e10⟩ : ∃ u, lo * 2 ^ s % 18446744073709551616 = u := ⟨_, rfl⟩
    have h10 : un10 < 18446744073709551616 := by rw [← e10]; exact Nat.mod_lt _ (by omega)
    rw [eY] at hY hY2 hu; rw [e32] at hu
    have hYab : Y = Y / 4294967296 * 4294967296 + Y % 4294967296 := (Nat.div_add_mod' _ _).symm
    have hA1 : 2147483648 ≤ Y / 4294967296 := by omega
    have hA2 : Y / 4294967296 < 4294967296 := by omega
    have hB : Y % 4294967296 < 4294967296 := Nat.mod_lt _ (by omega)
    have hu1 : un10 / 4294967296 < 4294967296 := by omega
    have hu0 : un10 % 4294967296 < 4294967296 := Nat.mod_lt _ (by omega)
    have hY0 : 0 < Y := by omega
    have d1 : un32 * 4294967296 + un10 / 4294967296 = (un32 * 4294967296 + un10 / 4294967296) / Y * Y + (un32 * 4294967296 + un10 / 4294967296) % Y := (Nat.div_add_mod' _ _).symm
    have l1 : (un32 * 4294967296 + un10 / 4294967296) % Y < Y := Nat.mod_lt _ hY0
    have s1 := dv_start hYab hB hA1 hu hu1
    have q1 := dv_lt hu hu1
    obtain ⟨Q1, eQ1⟩ : ∃ u, (un32 * 4294967296 + un10 / 4294967296) / Y = u := ⟨_, rfl⟩
    obtain ⟨un21, e21⟩ : ∃ u, (un32 * 4294967296 + un10 / 4294967296) % Y = u := ⟨_, rfl⟩
    rw [e21] at l1; rw [eQ1] at q1; rw [e21, eQ1] at d1
    have d0 : un21 * 4294967296 + un10 % 4294967296 = (un21 * 4294967296 + un10 % 4294967296) / Y * Y + (un21 * 4294967296 + un10 % 4294967296) % Y := (Nat.div_add_mod' _ _).symm
    have l0 : (un21 * 4294967296 + un10 % 4294967296) % Y < Y := Nat.mod_lt _ hY0
    have s0 := dv_start hYab hB hA1 l1 hu0
    have q0 := dv_lt l1 hu0
    obtain ⟨Q0, eQ0⟩ : ∃ u, (un21 * 4294967296 + un10 % 4294967296) / Y = u := ⟨_, rfl⟩
    obtain ⟨RR, eRR⟩ : ∃ u, (un21 * 4294967296 + un10 % 4294967296) % Y = u := ⟨_, rfl⟩
    rw [eRR] at l0; rw [eQ0] at q0; rw [eRR, eQ0] at d0
    have hfin := dv_final (y0 := y) (s := s) (by omega) (by omega) kl ky eY.symm e32.symm e10.symm eQ1.symm e21.symm eQ0.symm eRR.symm
    have hL : 64 - Lib.bitLen y = s := by rw [hLL]; exact hs
    have h := div64_core hi lo y s Y _ _ un32 un10 _ _ Q1 un21 Q0 RR ky (by omega) kyM kl hL (by omega) (by rw [eY]; exact Nat.mod_eq_of_lt hY) hY hY0 rfl rfl hA1 hA2 hB hYab hH hlo e32 hu e10 h10 rfl rfl hu1 hu0 eQ1 d1 l1 eQ0 d0 l0 q1 q0 s1 s0
    rw [hfin.1, hfin.2.1] at h
    exact h

end Go.Proofs.Ytfmoolclokffjaa
