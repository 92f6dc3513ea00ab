import Derived.Test.YtmdhmgngomlheaaP30c
import Derived.Test.YtmdhmgngomlheaaP30d
import Derived.Test.YtmdhmgngomlheaaEngT
namespace Go.Proofs.Ytmdhmgngomlheaa
open Go.Eng
set_option maxRecDepth 100000
set_option maxHeartbeats 4000000
set_option linter.unusedVariables false
set_option linter.unusedSimpArgs false

def cod (l : List UInt8) : List Int := l.map fun b => (b.toNat : Int)
theorem cod_back (l : List UInt8) : (cod l).map (fun n => UInt8.ofNat n.toNat) = l := by
  simp [cod, Function.comp_def]
theorem fmt_step {p : TPattern} {c i : Nat} (h : i < c) : cod ((fmtF p c).take (c - i)) = cod ((fmtF p c).take (c - (i + 1))) ++ [((chrF p i).toNat : Int)] := by
  rw [show c - i = (c - (i + 1)) + 1 by omega, fmtF_take p c _ (by omega), show c - 1 - (c - (i + 1)) = i by omega]
  simp [cod]
theorem chr_dash {p : TPattern} {i : Nat} (hi : i < 8) (h : (andI (p.1.fdiv (2 ^ (min ((i : Nat) : Int).toNat IntKind.i64.bits))) 1 == 0) = true) : chrF p i = 45 := by
  rw [shr_bit hi] at h
  unfold chrF
  cases q : tb p.1 i <;> simp [q] at h ⊢
theorem chr_bit {p : TPattern} {i : Nat} {r : Bool} (hi : i < 8) (h0 : (andI (p.1.fdiv (2 ^ (min ((i : Nat) : Int).toNat IntKind.i64.bits))) 1 == 0) = false) (h : (andI (p.2.fdiv (2 ^ (min ((i : Nat) : Int).toNat IntKind.i64.bits))) 1 == 1) = r) : chrF p i = if r = true then 49 else 48 := by
  rw [shr_bit hi] at h h0
  unfold chrF
  cases q : tb p.1 i <;> simp [q] at h0 ⊢
  cases q2 : tb p.2 i <;> simp [q2] at h ⊢ <;> subst h <;> simp
theorem own_len {nm : Nat} {a b : Nat} (h : a = b) : SV.own nm (rInt .u8).n 0 a = SV.own nm (rInt .u8).n 0 b := by rw [h]
theorem format_ok (p : TPattern) (n : Int) : Ct Try.prog 18 [.tv rPattern p, .raw (.int .i64 n)] (.raw (strV (fmtF p (clampF n)))) := by
  refine ct_intro Try.func18 rfl rfl Try.ntmps18 rfl rfl ?_
  intro w0 ok0
  refine j_seq ?_
  refine j_region ?_
  refine jg_os _ rfl (op_box (.tv (.base rfl)) rfl rfl rfl) ?_
  refine jg_adr _ rfl _ rfl rfl (op_assign (.base rfl)) ?_
  refine jg_nil ?_
  refine jn_keep [1, 2] [2] (.cons rfl (.cons rfl .nil)) (.cons rfl .nil) ?_
  refine jn_seq (j_seq ?_)
  refine j_region ?_
  refine jg_adr _ rfl _ rfl rfl (op_assign (.base rfl)) ?_
  refine jg_nil ?_
  refine jn_keep [1, 2, 5] [2] (.cons rfl (.cons rfl (.cons rfl .nil))) (.cons rfl .nil) ?_
  refine jn_seq (j_seq (j_seq ?_))
  have hc8 := clampF_le n
  refine j_region ?_
  refine jg_adr _ rfl _ rfl rfl (op_move (.base rfl)) ?_
  refine jg_adr _ rfl _ rfl rfl (op_call (clamp_ok _) (.cons (.base rfl) .nil) rfl rfl) ?_
  refine jg_adr _ rfl _ rfl rfl (op_sub (.base rfl) (.base rfl) (w64 (by omega))) ?_
  refine jg_adr _ rfl _ rfl rfl (op_assign (.base rfl)) ?_
  refine jg_nil ?_
  refine jn_keep [2, 5, 6] [2] (.cons rfl (.cons rfl (.cons rfl .nil))) (.cons rfl .nil) ?_
  refine jn_seq (j_block ?_)
  refine j_vac 70 5 (rInt .u8) rfl rfl rfl ?_
  refine j_loopp (ι := Nat) (fun m => ⟨[(2, .optr 2 rPattern.n 0 0), (5, .own 70 (rInt .u8).n 0 (cod ((fmtF p (clampF n)).take (clampF n - m))).length), (6, .raw (.int .i64 (((m : Nat) : Int) - 1)))], [(2, ⟨rPattern, [p]⟩), (70, ⟨rInt .u8, (cod ((fmtF p (clampF n)).take (clampF n - m)))⟩)]⟩) (fun m => m ≤ clampF n) (fun m => m) (clampF n) (Nat.le_refl _) (fun a w hi => (Sub.inv ⟨(by repeat (first | exact SubS_nil | refine SubS_cons rfl (by first | rfl | (simp [cod]; done) | assumption) ?_)), (by repeat (first | exact SubH_nil | refine SubH_cons rfl (by first | rfl | (simp [cod]; done) | assumption) ?_))⟩ hi)) ?_
  rintro m hm
  have hc8 := clampF_le n
  have hrl : (cod ((fmtF p (clampF n)).take (clampF n - m))).length ≤ 8 := by simp only [cod, List.length_map, List.length_take, fmtF_len]; omega
  refine j_seq (j_seq ?_)
  refine j_region ?_
  refine jg_adr _ rfl _ rfl rfl (op_move (.base rfl)) ?_
  refine jg_adr _ rfl _ rfl rfl (op_geq (.base rfl) (.base rfl)) ?_
  refine jg_nil ?_
  refine jn_keep [2, 5, 6, 11] [2, 70] (.cons rfl (.cons rfl (.cons rfl (.cons rfl .nil)))) (.cons rfl (.cons rfl .nil)) ?_
  refine jn_seq ?_
  refine j_cond rfl (fun h3 => ?_) (fun h3 => ?_)
  · have h3 : 0 ≤ ((m : Nat) : Int) - 1 := by simpa using h3
    obtain ⟨i, rfl⟩ : ∃ i, m = i + 1 := ⟨m - 1, by omega⟩
    rw [show (((i + 1 : Nat) : Int) - 1) = (i : Int) by omega]
    have hi8 : i < 8 := by omega
    have hs0 := fmt_step (p := p) (show i < clampF n by omega)
    refine j_skip (jn_seq (j_seq (j_block (j_block (j_seq ?_)))))
    refine j_region ?_
    refine jg_adr _ rfl _ rfl rfl (op_ofield fld29_0 (.base rfl)) ?_
    refine jg_adr _ rfl _ rfl rfl (op_oload ty3 (.base rfl) rfl rfl ln29_0) ?_
    refine jg_adr _ rfl _ rfl rfl (op_move (.base rfl)) ?_
    refine jg_adr _ rfl _ rfl rfl (op_shr (.base rfl) (.base rfl) (by omega) rfl) ?_
    refine jg_adr _ rfl _ rfl rfl (op_and (.base rfl) (.base rfl) rfl) ?_
    refine jg_adr _ rfl _ rfl rfl (op_eql (.base rfl) (.base rfl)) ?_
    refine jg_adr _ rfl _ rfl rfl (op_assign (.base rfl)) ?_
    refine jg_nil ?_
    refine jn_keep [2, 5, 6, 17] [2, 70] (.cons rfl (.cons rfl (.cons rfl (.cons rfl .nil)))) (.cons rfl (.cons rfl .nil)) ?_
    refine jn_seq ?_
    refine j_cond rfl (fun h6 => ?_) (fun h6 => ?_)
    · have hc := chr_dash hi8 h6
      rw [hc] at hs0
      have hs := hs0
      refine j_region ?_
      refine jg_adr _ rfl _ rfl rfl (op_move (.base rfl)) ?_
      refine jg_adr _ rfl _ rfl rfl (op_bslice (rt := (rInt .u8)) Try.underlying51 ty5 z5 rfl (.cons (.raw (.base rfl) rfl) .nil) rfl rfl) ?_
      refine jg_os _ rfl (op_append [2, 6] Try.underlying51 ty5 z5 rfl by5 (.base rfl) rfl (by (try simp); try omega) (.tv (.base rfl)) (by unfold maxLen; (try simp); try omega) (by (try simp); try omega) rfl (.cons rfl (.cons rfl .nil)) rfl) ?_
      refine jg_adr _ rfl _ rfl rfl (op_assign (.base rfl)) ?_
      refine jg_nil ?_
      refine jn_keep [2, 5, 6] [2, 70] (.cons rfl (.cons rfl (.cons rfl .nil))) (.cons rfl (.cons rfl .nil)) ?_
      refine jn_blk (jn_blk (jn_seq ?_))
      refine j_region ?_
      refine jg_adr _ rfl _ rfl rfl (op_move (.base rfl)) ?_
      refine jg_adr _ rfl _ rfl rfl (op_sub (.base rfl) (.base rfl) (w64 (by omega))) ?_
      refine jg_adr _ rfl _ rfl rfl (op_assign (.base rfl)) ?_
      refine jg_nil ?_
      refine jn_keep [2, 5, 6] [2, 70] (.cons rfl (.cons rfl (.cons rfl .nil))) (.cons rfl (.cons rfl .nil)) ?_
      exact jn_loop (fun a w hi => ⟨i, (by omega), (by omega), Sub.inv ⟨(by repeat (first | exact SubS_nil | refine SubS_cons rfl (by first | rfl | exact own_len (by rw [hs]; simp) | (refine congrArg (fun x => SV.raw (.int .i64 x)) ?_; omega)) ?_)), (by repeat (first | exact SubH_nil | refine SubH_cons rfl (by first | rfl | (refine congrArg (HB.mk (rInt .u8)) ?_; rw [hs]; (try simp only [List.drop_zero, List.take_length]); first | done | rfl)) ?_))⟩ hi⟩)
    · skip
      refine j_seq ?_
      refine j_region ?_
      refine jg_adr _ rfl _ rfl rfl (op_ofield fld29_1 (.base rfl)) ?_
      refine jg_adr _ rfl _ rfl rfl (op_oload ty3 (.base rfl) rfl rfl ln29_1) ?_
      refine jg_adr _ rfl _ rfl rfl (op_move (.base rfl)) ?_
      refine jg_adr _ rfl _ rfl rfl (op_shr (.base rfl) (.base rfl) (by omega) rfl) ?_
      refine jg_adr _ rfl _ rfl rfl (op_and (.base rfl) (.base rfl) rfl) ?_
      refine jg_adr _ rfl _ rfl rfl (op_eql (.base rfl) (.base rfl)) ?_
      refine jg_adr _ rfl _ rfl rfl (op_assign (.base rfl)) ?_
      refine jg_nil ?_
      refine jn_keep [2, 5, 6, 27] [2, 70] (.cons rfl (.cons rfl (.cons rfl (.cons rfl .nil)))) (.cons rfl (.cons rfl .nil)) ?_
      refine jn_seq ?_
      refine j_cond rfl (fun h8 => ?_) (fun h8 => ?_)
      · have hc := chr_bit hi8 h6 h8
        rw [hc] at hs0
        have hs := hs0
        refine j_region ?_
        refine jg_adr _ rfl _ rfl rfl (op_move (.base rfl)) ?_
        refine jg_adr _ rfl _ rfl rfl (op_bslice (rt := (rInt .u8)) Try.underlying51 ty5 z5 rfl (.cons (.raw (.base rfl) rfl) .nil) rfl rfl) ?_
        refine jg_os _ rfl (op_append [2, 6] Try.underlying51 ty5 z5 rfl by5 (.base rfl) rfl (by (try simp); try omega) (.tv (.base rfl)) (by unfold maxLen; (try simp); try omega) (by (try simp); try omega) rfl (.cons rfl (.cons rfl .nil)) rfl) ?_
        refine jg_adr _ rfl _ rfl rfl (op_assign (.base rfl)) ?_
        refine jg_nil ?_
        refine jn_keep [2, 5, 6] [2, 70] (.cons rfl (.cons rfl (.cons rfl .nil))) (.cons rfl (.cons rfl .nil)) ?_
        refine jn_blk (jn_blk (jn_seq ?_))
        refine j_region ?_
        refine jg_adr _ rfl _ rfl rfl (op_move (.base rfl)) ?_
        refine jg_adr _ rfl _ rfl rfl (op_sub (.base rfl) (.base rfl) (w64 (by omega))) ?_
        refine jg_adr _ rfl _ rfl rfl (op_assign (.base rfl)) ?_
        refine jg_nil ?_
        refine jn_keep [2, 5, 6] [2, 70] (.cons rfl (.cons rfl (.cons rfl .nil))) (.cons rfl (.cons rfl .nil)) ?_
        exact jn_loop (fun a w hi => ⟨i, (by omega), (by omega), Sub.inv ⟨(by repeat (first | exact SubS_nil | refine SubS_cons rfl (by first | rfl | exact own_len (by rw [hs]; simp) | (refine congrArg (fun x => SV.raw (.int .i64 x)) ?_; omega)) ?_)), (by repeat (first | exact SubH_nil | refine SubH_cons rfl (by first | rfl | (refine congrArg (HB.mk (rInt .u8)) ?_; rw [hs]; (try simp only [List.drop_zero, List.take_length]); first | done | rfl)) ?_))⟩ hi⟩)
      · have hc := chr_bit hi8 h6 h8
        rw [hc] at hs0
        have hs := hs0
        refine j_region ?_
        refine jg_adr _ rfl _ rfl rfl (op_move (.base rfl)) ?_
        refine jg_adr _ rfl _ rfl rfl (op_bslice (rt := (rInt .u8)) Try.underlying51 ty5 z5 rfl (.cons (.raw (.base rfl) rfl) .nil) rfl rfl) ?_
        refine jg_os _ rfl (op_append [2, 6] Try.underlying51 ty5 z5 rfl by5 (.base rfl) rfl (by (try simp); try omega) (.tv (.base rfl)) (by unfold maxLen; (try simp); try omega) (by (try simp); try omega) rfl (.cons rfl (.cons rfl .nil)) rfl) ?_
        refine jg_adr _ rfl _ rfl rfl (op_assign (.base rfl)) ?_
        refine jg_nil ?_
        refine jn_keep [2, 5, 6] [2, 70] (.cons rfl (.cons rfl (.cons rfl .nil))) (.cons rfl (.cons rfl .nil)) ?_
        refine jn_blk (jn_blk (jn_seq ?_))
        refine j_region ?_
        refine jg_adr _ rfl _ rfl rfl (op_move (.base rfl)) ?_
        refine jg_adr _ rfl _ rfl rfl (op_sub (.base rfl) (.base rfl) (w64 (by omega))) ?_
        refine jg_adr _ rfl _ rfl rfl (op_assign (.base rfl)) ?_
        refine jg_nil ?_
        refine jn_keep [2, 5, 6] [2, 70] (.cons rfl (.cons rfl (.cons rfl .nil))) (.cons rfl (.cons rfl .nil)) ?_
        exact jn_loop (fun a w hi => ⟨i, (by omega), (by omega), Sub.inv ⟨(by repeat (first | exact SubS_nil | refine SubS_cons rfl (by first | rfl | exact own_len (by rw [hs]; simp) | (refine congrArg (fun x => SV.raw (.int .i64 x)) ?_; omega)) ?_)), (by repeat (first | exact SubH_nil | refine SubH_cons rfl (by first | rfl | (refine congrArg (HB.mk (rInt .u8)) ?_; rw [hs]; (try simp only [List.drop_zero, List.take_length]); first | done | rfl)) ?_))⟩ hi⟩)
  · have h3 : ¬ 0 ≤ ((m : Nat) : Int) - 1 := by simpa using h3
    obtain rfl : m = 0 := by omega
    refine j_exit (je_seq (je_loop (je_blk (jn_seq (j_seq ?_)))))
    refine j_seal (rt := rInt .u8) 70 5 (dropH 70 _) rfl rfl (by simp) (dropH_sub 70 _) (dropH_no 70 _) ?_
    refine j_region ?_
    refine jg_adr _ rfl _ rfl rfl (op_move (.base rfl)) ?_
    refine jg_adr _ rfl _ rfl rfl (op_bstr Try.underlying51 Try.underlying5 Try.underlying9 (.base rfl)) ?_
    refine jg_adr _ rfl _ rfl rfl (op_assign (.base rfl)) ?_
    refine jg_nil ?_
    refine jn_keep [4] [] (.cons rfl .nil) .nil ?_
    refine jn_seq (j_ret ?_)
    exact jr_fin1 Try.results18 (res_tmp rfl) rfl (by rw [List.drop_zero, List.take_length, cod_back, List.take_of_length_le (by rw [fmtF_len]; omega)])

theorem rformat_ok (p : TPattern) (n : Int) : Ct Try.prog 19 [.tv rPattern p, .raw (.int .i64 n)] (.raw (strV (fmtF p (clampF n)))) := by
  refine ct_intro Try.func19 rfl rfl Try.ntmps19 rfl rfl ?_
  intro w0 ok0
  refine j_seq ?_
  refine j_region ?_
  refine jg_os _ rfl (op_box (.tv (.base rfl)) rfl rfl rfl) ?_
  refine jg_adr _ rfl _ rfl rfl (op_assign (.base rfl)) ?_
  refine jg_nil ?_
  refine jn_keep [1, 2] [2] (.cons rfl (.cons rfl .nil)) (.cons rfl .nil) ?_
  refine jn_seq (j_seq ?_)
  refine j_region ?_
  refine jg_adr _ rfl _ rfl rfl (op_assign (.base rfl)) ?_
  refine jg_nil ?_
  refine jn_keep [1, 2, 5] [2] (.cons rfl (.cons rfl (.cons rfl .nil))) (.cons rfl .nil) ?_
  refine jn_seq (j_seq ?_)
  refine j_region ?_
  refine jg_adr _ rfl _ rfl rfl (op_assign (.base rfl)) ?_
  refine jg_nil ?_
  refine jn_keep [1, 2, 5, 6] [2] (.cons rfl (.cons rfl (.cons rfl (.cons rfl .nil)))) (.cons rfl .nil) ?_
  refine jn_seq (j_seq (j_seq ?_))
  refine j_region ?_
  refine jg_adr _ rfl _ rfl rfl (op_assign (.base rfl)) ?_
  refine jg_nil ?_
  refine jn_keep [1, 2, 5, 6, 7] [2] (.cons rfl (.cons rfl (.cons rfl (.cons rfl (.cons rfl .nil))))) (.cons rfl .nil) ?_
  refine jn_seq (j_block ?_)
  refine j_loopp (ι := Nat) (fun i => ⟨[(1, .raw (.int .i64 (n))), (2, .optr 2 rPattern.n 0 0), (5, .raw (strV (fmtF p i))), (6, .raw (.int .i64 (((2 ^ i : Nat) : Int)))), (7, .raw (.int .i64 ((i : Nat))))], [(2, ⟨rPattern, [p]⟩)]⟩) (fun i => i ≤ clampF n) (fun i => clampF n - i) 0 (Nat.zero_le _) (fun a w hi => (Sub.inv ⟨(by repeat (first | exact SubS_nil | refine SubS_cons rfl (by first | rfl | (simp; done) | assumption) ?_)), (by repeat (first | exact SubH_nil | refine SubH_cons rfl (by first | rfl | (simp; done) | assumption) ?_))⟩ hi)) ?_
  rintro i hi0
  have hc8 := clampF_le n
  have h2i : 2 ^ i ≤ 2 ^ 8 := Nat.pow_le_pow_right (by omega) (by omega)
  have hlen := fmtF_len p i
  refine j_seq (j_seq ?_)
  refine j_region ?_
  refine jg_adr _ rfl _ rfl rfl (op_move (.base rfl)) ?_
  refine jg_adr _ rfl _ rfl rfl (op_move (.base rfl)) ?_
  refine jg_adr _ rfl _ rfl rfl (op_call (rclamp_ok _) (.cons (.base rfl) .nil) rfl rfl) ?_
  refine jg_adr _ rfl _ rfl rfl (op_lss (.base rfl) (.base rfl)) ?_
  refine jg_nil ?_
  refine jn_keep [1, 2, 5, 6, 7, 12] [2] (.cons rfl (.cons rfl (.cons rfl (.cons rfl (.cons rfl (.cons rfl .nil)))))) (.cons rfl .nil) ?_
  refine jn_seq ?_
  refine j_cond rfl (fun h4 => ?_) (fun h4 => ?_)
  · have h4 : i < clampF n := by simpa using h4
    have hi8 : i < 8 := by omega
    refine j_skip (jn_seq (j_seq (j_block (j_seq ?_))))
    refine j_region ?_
    refine jg_adr _ rfl _ rfl rfl (op_assign (.base rfl)) ?_
    refine jg_nil ?_
    refine jn_keep [1, 2, 5, 6, 7, 8] [2] (.cons rfl (.cons rfl (.cons rfl (.cons rfl (.cons rfl (.cons rfl .nil)))))) (.cons rfl .nil) ?_
    refine jn_seq (j_seq (j_seq ?_))
    refine j_region ?_
    refine jg_adr _ rfl _ rfl rfl (op_ofield fld29_0 (.base rfl)) ?_
    refine jg_adr _ rfl _ rfl rfl (op_oload ty3 (.base rfl) rfl rfl ln29_0) ?_
    refine jg_adr _ rfl _ rfl rfl (op_move (.base rfl)) ?_
    refine jg_adr _ rfl _ rfl rfl (op_and (.base rfl) (.base rfl) rfl) ?_
    refine jg_adr _ rfl _ rfl rfl (op_neq (.base rfl) (.base rfl)) ?_
    refine jg_nil ?_
    refine jn_keep [1, 2, 5, 6, 7, 8, 19] [2] (.cons rfl (.cons rfl (.cons rfl (.cons rfl (.cons rfl (.cons rfl (.cons rfl .nil))))))) (.cons rfl .nil) ?_
    refine jn_seq ?_
    refine j_cond rfl (fun h7 => ?_) (fun h7 => ?_)
    · rw [and_bit hi8] at h7
      refine j_seq ?_
      refine j_region ?_
      refine jg_adr _ rfl _ rfl rfl (op_assign (.base rfl)) ?_
      refine jg_nil ?_
      refine jn_keep [1, 2, 5, 6, 7, 8] [2] (.cons rfl (.cons rfl (.cons rfl (.cons rfl (.cons rfl (.cons rfl .nil)))))) (.cons rfl .nil) ?_
      refine jn_seq (j_seq ?_)
      refine j_region ?_
      refine jg_adr _ rfl _ rfl rfl (op_ofield fld29_1 (.base rfl)) ?_
      refine jg_adr _ rfl _ rfl rfl (op_oload ty3 (.base rfl) rfl rfl ln29_1) ?_
      refine jg_adr _ rfl _ rfl rfl (op_move (.base rfl)) ?_
      refine jg_adr _ rfl _ rfl rfl (op_and (.base rfl) (.base rfl) rfl) ?_
      refine jg_adr _ rfl _ rfl rfl (op_neq (.base rfl) (.base rfl)) ?_
      refine jg_nil ?_
      refine jn_keep [1, 2, 5, 6, 7, 8, 24] [2] (.cons rfl (.cons rfl (.cons rfl (.cons rfl (.cons rfl (.cons rfl (.cons rfl .nil))))))) (.cons rfl .nil) ?_
      refine jn_seq ?_
      refine j_cond rfl (fun h9 => ?_) (fun h9 => ?_)
      · rw [and_bit hi8] at h9
        have hc : chrF p i = 49 := by unfold chrF; simp [h7, h9]
        refine j_region ?_
        refine jg_adr _ rfl _ rfl rfl (op_assign (.base rfl)) ?_
        refine jg_nil ?_
        refine jn_keep [1, 2, 5, 6, 7, 8] [2] (.cons rfl (.cons rfl (.cons rfl (.cons rfl (.cons rfl (.cons rfl .nil)))))) (.cons rfl .nil) ?_
        refine jn_seq (j_seq ?_)
        refine j_region ?_
        refine jg_adr _ rfl _ rfl rfl (op_move (.base rfl)) ?_
        refine jg_adr _ rfl _ rfl rfl (op_move (.base rfl)) ?_
        refine jg_adr _ rfl _ rfl rfl (op_cat (.base rfl) (.base rfl) (by rw [hlen]; simp; omega)) ?_
        refine jg_adr _ rfl _ rfl rfl (op_assign (.base rfl)) ?_
        refine jg_nil ?_
        refine jn_keep [1, 2, 5, 6, 7] [2] (.cons rfl (.cons rfl (.cons rfl (.cons rfl (.cons rfl .nil))))) (.cons rfl .nil) ?_
        refine jn_seq ?_
        refine j_region ?_
        refine jg_adr _ rfl _ rfl rfl (op_move (.base rfl)) ?_
        refine jg_adr _ rfl _ rfl rfl (op_mul (.base rfl) (.base rfl) (w64 (by have h2 := h2i; generalize 2 ^ i = z at *; omega))) ?_
        refine jg_adr _ rfl _ rfl rfl (op_assign (.base rfl)) ?_
        refine jg_nil ?_
        refine jn_keep [1, 2, 5, 6, 7] [2] (.cons rfl (.cons rfl (.cons rfl (.cons rfl (.cons rfl .nil))))) (.cons rfl .nil) ?_
        refine jn_blk (jn_seq ?_)
        refine j_region ?_
        refine jg_adr _ rfl _ rfl rfl (op_move (.base rfl)) ?_
        refine jg_adr _ rfl _ rfl rfl (op_add (.base rfl) (.base rfl) (w64 (by omega))) ?_
        refine jg_adr _ rfl _ rfl rfl (op_assign (.base rfl)) ?_
        refine jg_nil ?_
        refine jn_keep [1, 2, 5, 6, 7] [2] (.cons rfl (.cons rfl (.cons rfl (.cons rfl (.cons rfl .nil))))) (.cons rfl .nil) ?_
        exact jn_loop (fun a w hi => ⟨i + 1, (by omega), (by omega), Sub.inv ⟨(by repeat (first | exact SubS_nil | refine SubS_cons rfl (by first | rfl | (refine congrArg (fun x => SV.raw (strV x)) ?_; simp only [fmtF, hc]; rfl) | (refine congrArg (fun x => SV.raw (.int .i64 x)) ?_; first | omega | (rw [Nat.pow_succ]; omega))) ?_)), (by repeat (first | exact SubH_nil | refine SubH_cons rfl (by first | rfl | (simp; done) | assumption) ?_))⟩ hi⟩)
      · rw [and_bit hi8] at h9
        have hc : chrF p i = 48 := by unfold chrF; simp [h7, h9]
        refine j_skip (jn_seq (j_seq ?_))
        refine j_region ?_
        refine jg_adr _ rfl _ rfl rfl (op_move (.base rfl)) ?_
        refine jg_adr _ rfl _ rfl rfl (op_move (.base rfl)) ?_
        refine jg_adr _ rfl _ rfl rfl (op_cat (.base rfl) (.base rfl) (by rw [hlen]; simp; omega)) ?_
        refine jg_adr _ rfl _ rfl rfl (op_assign (.base rfl)) ?_
        refine jg_nil ?_
        refine jn_keep [1, 2, 5, 6, 7] [2] (.cons rfl (.cons rfl (.cons rfl (.cons rfl (.cons rfl .nil))))) (.cons rfl .nil) ?_
        refine jn_seq ?_
        refine j_region ?_
        refine jg_adr _ rfl _ rfl rfl (op_move (.base rfl)) ?_
        refine jg_adr _ rfl _ rfl rfl (op_mul (.base rfl) (.base rfl) (w64 (by have h2 := h2i; generalize 2 ^ i = z at *; omega))) ?_
        refine jg_adr _ rfl _ rfl rfl (op_assign (.base rfl)) ?_
        refine jg_nil ?_
        refine jn_keep [1, 2, 5, 6, 7] [2] (.cons rfl (.cons rfl (.cons rfl (.cons rfl (.cons rfl .nil))))) (.cons rfl .nil) ?_
        refine jn_blk (jn_seq ?_)
        refine j_region ?_
        refine jg_adr _ rfl _ rfl rfl (op_move (.base rfl)) ?_
        refine jg_adr _ rfl _ rfl rfl (op_add (.base rfl) (.base rfl) (w64 (by omega))) ?_
        refine jg_adr _ rfl _ rfl rfl (op_assign (.base rfl)) ?_
        refine jg_nil ?_
        refine jn_keep [1, 2, 5, 6, 7] [2] (.cons rfl (.cons rfl (.cons rfl (.cons rfl (.cons rfl .nil))))) (.cons rfl .nil) ?_
        exact jn_loop (fun a w hi => ⟨i + 1, (by omega), (by omega), Sub.inv ⟨(by repeat (first | exact SubS_nil | refine SubS_cons rfl (by first | rfl | (refine congrArg (fun x => SV.raw (strV x)) ?_; simp only [fmtF, hc]; rfl) | (refine congrArg (fun x => SV.raw (.int .i64 x)) ?_; first | omega | (rw [Nat.pow_succ]; omega))) ?_)), (by repeat (first | exact SubH_nil | refine SubH_cons rfl (by first | rfl | (simp; done) | assumption) ?_))⟩ hi⟩)
    · rw [and_bit hi8] at h7
      have hc : chrF p i = 45 := by unfold chrF; simp [h7]
      refine j_skip (jn_seq (j_seq ?_))
      refine j_region ?_
      refine jg_adr _ rfl _ rfl rfl (op_move (.base rfl)) ?_
      refine jg_adr _ rfl _ rfl rfl (op_move (.base rfl)) ?_
      refine jg_adr _ rfl _ rfl rfl (op_cat (.base rfl) (.base rfl) (by rw [hlen]; simp; omega)) ?_
      refine jg_adr _ rfl _ rfl rfl (op_assign (.base rfl)) ?_
      refine jg_nil ?_
      refine jn_keep [1, 2, 5, 6, 7] [2] (.cons rfl (.cons rfl (.cons rfl (.cons rfl (.cons rfl .nil))))) (.cons rfl .nil) ?_
      refine jn_seq ?_
      refine j_region ?_
      refine jg_adr _ rfl _ rfl rfl (op_move (.base rfl)) ?_
      refine jg_adr _ rfl _ rfl rfl (op_mul (.base rfl) (.base rfl) (w64 (by have h2 := h2i; generalize 2 ^ i = z at *; omega))) ?_
      refine jg_adr _ rfl _ rfl rfl (op_assign (.base rfl)) ?_
      refine jg_nil ?_
      refine jn_keep [1, 2, 5, 6, 7] [2] (.cons rfl (.cons rfl (.cons rfl (.cons rfl (.cons rfl .nil))))) (.cons rfl .nil) ?_
      refine jn_blk (jn_seq ?_)
      refine j_region ?_
      refine jg_adr _ rfl _ rfl rfl (op_move (.base rfl)) ?_
      refine jg_adr _ rfl _ rfl rfl (op_add (.base rfl) (.base rfl) (w64 (by omega))) ?_
      refine jg_adr _ rfl _ rfl rfl (op_assign (.base rfl)) ?_
      refine jg_nil ?_
      refine jn_keep [1, 2, 5, 6, 7] [2] (.cons rfl (.cons rfl (.cons rfl (.cons rfl (.cons rfl .nil))))) (.cons rfl .nil) ?_
      exact jn_loop (fun a w hi => ⟨i + 1, (by omega), (by omega), Sub.inv ⟨(by repeat (first | exact SubS_nil | refine SubS_cons rfl (by first | rfl | (refine congrArg (fun x => SV.raw (strV x)) ?_; simp only [fmtF, hc]; rfl) | (refine congrArg (fun x => SV.raw (.int .i64 x)) ?_; first | omega | (rw [Nat.pow_succ]; omega))) ?_)), (by repeat (first | exact SubH_nil | refine SubH_cons rfl (by first | rfl | (simp; done) | assumption) ?_))⟩ hi⟩)
  · have h4 : ¬ i < clampF n := by simpa using h4
    obtain rfl : i = clampF n := by omega
    refine j_exit (je_seq (je_loop (je_blk (jn_seq (j_seq ?_)))))
    refine j_region ?_
    refine jg_adr _ rfl _ rfl rfl (op_move (.base rfl)) ?_
    refine jg_adr _ rfl _ rfl rfl (op_assign (.base rfl)) ?_
    refine jg_nil ?_
    refine jn_keep [4] [] (.cons rfl .nil) .nil ?_
    refine jn_seq (j_ret ?_)
    exact jr_fin1 Try.results19 (res_tmp rfl) rfl rfl

def svP3 (r : TPattern × Int × Int) : SV := .tup3 (.tv rPattern r.1) (.raw (.int .i64 r.2.1)) (.raw (.int .i64 r.2.2))
theorem svP3_eq {p : TPattern} {x y : Int} {r : TPattern × Int × Int} (h : (p, x, y) = r) : SV.tup3 (.tv rPattern p) (.raw (.int .i64 x)) (.raw (.int .i64 y)) = svP3 r := by subst h; rfl
theorem shlm {m : Nat} (h : m < 4294967296) : IntKind.i64.wrap ((m : Int) * 2 ^ (min ((1 : Int)).toNat IntKind.i64.bits)) = ((2 * m : Nat) : Int) := by
  rw [show (min ((1 : Int)).toNat IntKind.i64.bits) = 1 from rfl]
  rw [w64 (by omega)]; omega
theorem u8_eq {b : UInt8} {n : Nat} (hn : n < 256) (h : ((b.toNat : Int) == (n : Int)) = true) : b = UInt8.ofNat n := by
  rw [beq_iff_eq] at h
  apply UInt8.toNat_inj.1
  rw [UInt8.toNat_ofNat']
  omega
theorem u8_ne {b : UInt8} {n : Nat} (h : ((b.toNat : Int) == (n : Int)) = false) : b ≠ UInt8.ofNat n ∨ 256 ≤ n := by
  rw [beq_eq_false_iff_ne] at h
  rcases Nat.lt_or_ge n 256 with q | q
  · left; rintro rfl; apply h; rw [UInt8.toNat_ofNat']; omega
  · exact .inr q
theorem all_snoc {s : List UInt8} {k : Nat} (h : k < s.length) (h1 : (s.take k).all okC = true) (h2 : okC s[k] = true) : (s.take (k + 1)).all okC = true := by
  rw [take_snoc h, List.all_append, h1]; simp [h2]
theorem not_all {s : List UInt8} {k : Nat} (h : k < s.length) (h2 : okC s[k] = false) : ¬ s.all okC = true := fun e => by
  rw [List.all_eq_true.1 e _ (List.getElem_mem h)] at h2; cases h2
theorem mask_snoc {s : List UInt8} {k : Nat} (h : k < s.length) : maskN (s.take (k + 1)) = 2 * maskN (s.take k) + (if s[k] = 45 then 0 else 1) := by rw [take_snoc h, maskN_snoc]
theorem bits_snoc {s : List UInt8} {k : Nat} (h : k < s.length) : bitsN (s.take (k + 1)) = 2 * bitsN (s.take k) + (if s[k] = 49 then 1 else 0) := by rw [take_snoc h, bitsN_snoc]
theorem parse_ok (s : List UInt8) : Ct Try.prog 20 [.raw (strV s)] (svP3 (parseF s)) := by
  refine ct_intro Try.func20 rfl rfl Try.ntmps20 rfl rfl ?_
  intro w0 ok0
  refine j_seq ?_
  refine j_region ?_
  refine jg_os _ rfl (op_alloc _ z29 rfl rfl rfl) ?_
  refine jg_adr _ rfl _ rfl rfl (op_assign (.base rfl)) ?_
  refine jg_adr _ rfl _ rfl rfl (op_assign (.base rfl)) ?_
  refine jg_nil ?_
  refine jn_keep [0, 2] [2] (.cons rfl (.cons rfl .nil)) (.cons rfl .nil) ?_
  refine jn_seq (j_seq (j_seq ?_))
  refine j_region ?_
  refine jg_adr _ rfl _ rfl rfl (op_move (.base rfl)) ?_
  refine jg_adr _ rfl _ rfl rfl (op_len_str Try.underlying9 (.base rfl)) ?_
  refine jg_adr _ rfl _ rfl rfl (op_gtr (.base rfl) (.base rfl)) ?_
  refine jg_nil ?_
  refine jn_keep [0, 2, 9] [2] (.cons rfl (.cons rfl (.cons rfl .nil))) (.cons rfl .nil) ?_
  refine jn_seq ?_
  refine j_cond rfl (fun h1 => ?_) (fun h1 => ?_)
  · have h1 : s.length > 8 := by simp at h1; omega
    refine j_seq ?_
    refine j_region ?_
    refine jg_adr _ rfl _ rfl rfl (op_build z29 rfl pl29 .nil) ?_
    refine jg_os _ rfl (op_ostore ty29 (.base rfl) rfl rfl (Lens.id _) (.tv (.base rfl))) ?_
    refine jg_adr _ rfl _ rfl rfl (op_assign (.base rfl)) ?_
    refine jg_adr _ rfl _ rfl rfl (op_assign (.base rfl)) ?_
    refine jg_nil ?_
    refine jn_keep [2, 3, 4] [2] (.cons rfl (.cons rfl (.cons rfl .nil))) (.cons rfl .nil) ?_
    refine jn_seq (j_ret (jr_seq ?_))
    exact jr_fin3 Try.results20 (res_cell ty29 rfl rfl rfl (Lens.id rPattern)) (res_tmp rfl) (res_tmp rfl) ⟨rfl, rfl, rfl⟩ (svP3_eq ((if_pos h1).symm))
  · have h1 : ¬ s.length > 8 := by simp at h1; omega
    refine j_skip (jn_seq (j_seq ?_))
    refine j_region ?_
    refine jg_os _ rfl (op_alloc _ z29 rfl rfl rfl) ?_
    refine jg_nil ?_
    refine jn_keep [0, 2, 5] [2, 5] (.cons rfl (.cons rfl (.cons rfl .nil))) (.cons rfl (.cons rfl .nil)) ?_
    refine jn_seq (j_seq (j_seq ?_))
    refine j_region ?_
    refine jg_adr _ rfl _ rfl rfl (op_move (.base rfl)) ?_
    refine jg_adr _ rfl _ rfl rfl (op_len_str Try.underlying9 (.base rfl)) ?_
    refine jg_adr _ rfl _ rfl rfl (op_move (.base rfl)) ?_
    refine jg_nil ?_
    refine jn_keep [0, 2, 5, 12, 13] [2, 5] (.cons rfl (.cons rfl (.cons rfl (.cons rfl (.cons rfl .nil))))) (.cons rfl (.cons rfl .nil)) ?_
    refine jn_seq (j_block ?_)
    refine j_loopp (ι := Nat) (fun k => ⟨[(0, .raw (strV s)), (2, .optr 2 rPattern.n 0 0), (5, .optr 5 rPattern.n 0 0), (12, .raw (.int .i64 ((s.length : Int)))), (13, .raw (.int .i64 ((k : Nat))))], [(2, ⟨rPattern, [(0, 0)]⟩), (5, ⟨rPattern, [((maskN (s.take k) : Nat), (bitsN (s.take k) : Nat))]⟩)]⟩) (fun k => k ≤ s.length ∧ (s.take k).all okC = true) (fun k => s.length - k) 0 (⟨Nat.zero_le _, rfl⟩) (fun a w hi => (Sub.inv ⟨(by repeat (first | exact SubS_nil | refine SubS_cons rfl (by first | rfl | (simp; done) | assumption) ?_)), (by repeat (first | exact SubH_nil | refine SubH_cons rfl (by first | rfl | (simp; done) | assumption) ?_))⟩ hi)) ?_
    rintro k ⟨hk, hall⟩
    have h2k : 2 ^ k ≤ 2 ^ 8 := Nat.pow_le_pow_right (by omega) (by omega)
    rw [show (2 : Nat) ^ 8 = 256 from rfl] at h2k
    have hml := maskN_lt (s.take k)
    have hbl := bitsN_lt (s.take k)
    rw [List.length_take, Nat.min_eq_left hk] at hml hbl
    refine j_seq ?_
    refine j_region ?_
    refine jg_adr _ rfl _ rfl rfl (op_lss (.base rfl) (.base rfl)) ?_
    refine jg_nil ?_
    refine jn_keep [0, 2, 5, 12, 13, 14] [2, 5] (.cons rfl (.cons rfl (.cons rfl (.cons rfl (.cons rfl (.cons rfl .nil)))))) (.cons rfl (.cons rfl .nil)) ?_
    refine jn_seq (j_seq ?_)
    refine j_cond rfl (fun h5 => ?_) (fun h5 => ?_)
    · have h5 : k < s.length := by simpa using h5
      have hm := mask_snoc h5
      have hb := bits_snoc h5
      refine j_skip (jn_seq (j_seq (j_block (j_seq ?_))))
      refine j_region ?_
      refine jg_adr _ rfl _ rfl rfl (op_move (.base rfl)) ?_
      refine jg_adr _ rfl _ rfl rfl (op_assign (.base rfl)) ?_
      refine jg_nil ?_
      refine jn_keep [0, 2, 5, 6, 12, 13] [2, 5] (.cons rfl (.cons rfl (.cons rfl (.cons rfl (.cons rfl (.cons rfl .nil)))))) (.cons rfl (.cons rfl .nil)) ?_
      refine jn_seq (j_seq ?_)
      refine j_region ?_
      refine jg_adr _ rfl _ rfl rfl (op_ofield fld29_0 (.base rfl)) ?_
      refine jg_adr _ rfl _ rfl rfl (op_oload ty3 (.base rfl) rfl rfl ln29_0) ?_
      refine jg_adr _ rfl _ rfl rfl (op_shl (.base rfl) (.base rfl) (by omega) (shlm (by omega))) ?_
      refine jg_adr _ rfl _ rfl rfl (op_ofield fld29_0 (.base rfl)) ?_
      refine jg_os _ rfl (op_ostore ty3 (.base rfl) rfl rfl ln29_0 (.raw (.base rfl) rfl)) ?_
      refine jg_nil ?_
      refine jn_keep [0, 2, 5, 6, 12, 13] [2, 5] (.cons rfl (.cons rfl (.cons rfl (.cons rfl (.cons rfl (.cons rfl .nil)))))) (.cons rfl (.cons rfl .nil)) ?_
      refine jn_seq (j_seq ?_)
      refine j_region ?_
      refine jg_adr _ rfl _ rfl rfl (op_ofield fld29_1 (.base rfl)) ?_
      refine jg_adr _ rfl _ rfl rfl (op_oload ty3 (.base rfl) rfl rfl ln29_1) ?_
      refine jg_adr _ rfl _ rfl rfl (op_shl (.base rfl) (.base rfl) (by omega) (shlm (by omega))) ?_
      refine jg_adr _ rfl _ rfl rfl (op_ofield fld29_1 (.base rfl)) ?_
      refine jg_os _ rfl (op_ostore ty3 (.base rfl) rfl rfl ln29_1 (.raw (.base rfl) rfl)) ?_
      refine jg_nil ?_
      refine jn_keep [0, 2, 5, 6, 12, 13] [2, 5] (.cons rfl (.cons rfl (.cons rfl (.cons rfl (.cons rfl (.cons rfl .nil)))))) (.cons rfl (.cons rfl .nil)) ?_
      refine jn_seq (j_seq ?_)
      refine j_region ?_
      refine jg_adr _ rfl _ rfl rfl (op_move (.base rfl)) ?_
      refine jg_adr _ rfl _ rfl rfl (op_move (.base rfl)) ?_
      refine jg_adr _ rfl _ rfl rfl (op_sindex Try.underlying9 (.base rfl) (.base rfl) rfl (List.getElem?_eq_getElem h5)) ?_
      refine jg_nil ?_
      refine jn_keep [0, 2, 5, 12, 13, 26] [2, 5] (.cons rfl (.cons rfl (.cons rfl (.cons rfl (.cons rfl (.cons rfl .nil)))))) (.cons rfl (.cons rfl .nil)) ?_
      refine jn_seq (j_block (j_seq ?_))
      refine j_region ?_
      refine jg_adr _ rfl _ rfl rfl (op_eql (.base rfl) (.base rfl)) ?_
      refine jg_adr _ rfl _ rfl rfl (op_assign (.base rfl)) ?_
      refine jg_nil ?_
      refine jn_keep [0, 2, 5, 12, 13, 26, 28] [2, 5] (.cons rfl (.cons rfl (.cons rfl (.cons rfl (.cons rfl (.cons rfl (.cons rfl .nil))))))) (.cons rfl (.cons rfl .nil)) ?_
      refine jn_seq ?_
      refine j_cond rfl (fun h11 => ?_) (fun h11 => ?_)
      · have hv : s[k] = 48 := u8_eq (n := 48) (by omega) h11
        rw [hv] at hm hb
        have hall2 := all_snoc h5 hall (by rw [hv]; rfl)
        refine j_region ?_
        refine jg_adr _ rfl _ rfl rfl (op_ofield fld29_0 (.base rfl)) ?_
        refine jg_adr _ rfl _ rfl rfl (op_oload ty3 (.base rfl) rfl rfl ln29_0) ?_
        refine jg_adr _ rfl _ rfl rfl (op_or (.base rfl) (.base rfl) (or1 (by omega))) ?_
        refine jg_adr _ rfl _ rfl rfl (op_ofield fld29_0 (.base rfl)) ?_
        refine jg_os _ rfl (op_ostore ty3 (.base rfl) rfl rfl ln29_0 (.raw (.base rfl) rfl)) ?_
        refine jg_nil ?_
        refine jn_keep [0, 2, 5, 12, 13] [2, 5] (.cons rfl (.cons rfl (.cons rfl (.cons rfl (.cons rfl .nil))))) (.cons rfl (.cons rfl .nil)) ?_
        refine jn_blk (jn_blk (jn_seq ?_))
        refine j_region ?_
        refine jg_adr _ rfl _ rfl rfl (op_add (.base rfl) (.base rfl) (w64 (by omega))) ?_
        refine jg_adr _ rfl _ rfl rfl (op_move (.base rfl)) ?_
        refine jg_nil ?_
        refine jn_keep [0, 2, 5, 12, 13] [2, 5] (.cons rfl (.cons rfl (.cons rfl (.cons rfl (.cons rfl .nil))))) (.cons rfl (.cons rfl .nil)) ?_
        exact jn_loop (fun a w hi => ⟨k + 1, (by omega), ⟨by omega, hall2⟩, Sub.inv ⟨(by repeat (first | exact SubS_nil | refine SubS_cons rfl (by first | rfl | (simp; done) | assumption) ?_)), (by repeat (first | exact SubH_nil | refine SubH_cons rfl (by first | rfl | (refine congrArg (HB.mk rPattern) ?_; rw [hm, hb]; rfl)) ?_))⟩ hi⟩)
      · have n48 := u8_ne (n := 48) h11
        refine j_seq ?_
        refine j_region ?_
        refine jg_adr _ rfl _ rfl rfl (op_eql (.base rfl) (.base rfl)) ?_
        refine jg_adr _ rfl _ rfl rfl (op_assign (.base rfl)) ?_
        refine jg_nil ?_
        refine jn_keep [0, 2, 5, 12, 13, 26, 34] [2, 5] (.cons rfl (.cons rfl (.cons rfl (.cons rfl (.cons rfl (.cons rfl (.cons rfl .nil))))))) (.cons rfl (.cons rfl .nil)) ?_
        refine jn_seq ?_
        refine j_cond rfl (fun h13 => ?_) (fun h13 => ?_)
        · have hv : s[k] = 49 := u8_eq (n := 49) (by omega) h13
          rw [hv] at hm hb
          have hall2 := all_snoc h5 hall (by rw [hv]; rfl)
          refine j_seq ?_
          refine j_region ?_
          refine jg_adr _ rfl _ rfl rfl (op_ofield fld29_0 (.base rfl)) ?_
          refine jg_adr _ rfl _ rfl rfl (op_oload ty3 (.base rfl) rfl rfl ln29_0) ?_
          refine jg_adr _ rfl _ rfl rfl (op_or (.base rfl) (.base rfl) (or1 (by omega))) ?_
          refine jg_adr _ rfl _ rfl rfl (op_ofield fld29_0 (.base rfl)) ?_
          refine jg_os _ rfl (op_ostore ty3 (.base rfl) rfl rfl ln29_0 (.raw (.base rfl) rfl)) ?_
          refine jg_nil ?_
          refine jn_keep [0, 2, 5, 12, 13] [2, 5] (.cons rfl (.cons rfl (.cons rfl (.cons rfl (.cons rfl .nil))))) (.cons rfl (.cons rfl .nil)) ?_
          refine jn_seq ?_
          refine j_region ?_
          refine jg_adr _ rfl _ rfl rfl (op_ofield fld29_1 (.base rfl)) ?_
          refine jg_adr _ rfl _ rfl rfl (op_oload ty3 (.base rfl) rfl rfl ln29_1) ?_
          refine jg_adr _ rfl _ rfl rfl (op_or (.base rfl) (.base rfl) (or1 (by omega))) ?_
          refine jg_adr _ rfl _ rfl rfl (op_ofield fld29_1 (.base rfl)) ?_
          refine jg_os _ rfl (op_ostore ty3 (.base rfl) rfl rfl ln29_1 (.raw (.base rfl) rfl)) ?_
          refine jg_nil ?_
          refine jn_keep [0, 2, 5, 12, 13] [2, 5] (.cons rfl (.cons rfl (.cons rfl (.cons rfl (.cons rfl .nil))))) (.cons rfl (.cons rfl .nil)) ?_
          refine jn_blk (jn_blk (jn_seq ?_))
          refine j_region ?_
          refine jg_adr _ rfl _ rfl rfl (op_add (.base rfl) (.base rfl) (w64 (by omega))) ?_
          refine jg_adr _ rfl _ rfl rfl (op_move (.base rfl)) ?_
          refine jg_nil ?_
          refine jn_keep [0, 2, 5, 12, 13] [2, 5] (.cons rfl (.cons rfl (.cons rfl (.cons rfl (.cons rfl .nil))))) (.cons rfl (.cons rfl .nil)) ?_
          exact jn_loop (fun a w hi => ⟨k + 1, (by omega), ⟨by omega, hall2⟩, Sub.inv ⟨(by repeat (first | exact SubS_nil | refine SubS_cons rfl (by first | rfl | (simp; done) | assumption) ?_)), (by repeat (first | exact SubH_nil | refine SubH_cons rfl (by first | rfl | (refine congrArg (HB.mk rPattern) ?_; rw [hm, hb]; rfl)) ?_))⟩ hi⟩)
        · have n49 := u8_ne (n := 49) h13
          refine j_seq ?_
          refine j_region ?_
          refine jg_adr _ rfl _ rfl rfl (op_eql (.base rfl) (.base rfl)) ?_
          refine jg_adr _ rfl _ rfl rfl (op_assign (.base rfl)) ?_
          refine jg_nil ?_
          refine jn_keep [0, 2, 5, 12, 13, 44] [2, 5] (.cons rfl (.cons rfl (.cons rfl (.cons rfl (.cons rfl (.cons rfl .nil)))))) (.cons rfl (.cons rfl .nil)) ?_
          refine jn_seq ?_
          refine j_cond rfl (fun h16 => ?_) (fun h16 => ?_)
          · have hv : s[k] = 45 := u8_eq (n := 45) (by omega) h16
            rw [hv] at hm hb
            have hall2 := all_snoc h5 hall (by rw [hv]; rfl)
            refine j_skip (jn_blk (jn_blk (jn_seq ?_)))
            refine j_region ?_
            refine jg_adr _ rfl _ rfl rfl (op_add (.base rfl) (.base rfl) (w64 (by omega))) ?_
            refine jg_adr _ rfl _ rfl rfl (op_move (.base rfl)) ?_
            refine jg_nil ?_
            refine jn_keep [0, 2, 5, 12, 13] [2, 5] (.cons rfl (.cons rfl (.cons rfl (.cons rfl (.cons rfl .nil))))) (.cons rfl (.cons rfl .nil)) ?_
            exact jn_loop (fun a w hi => ⟨k + 1, (by omega), ⟨by omega, hall2⟩, Sub.inv ⟨(by repeat (first | exact SubS_nil | refine SubS_cons rfl (by first | rfl | (simp; done) | assumption) ?_)), (by repeat (first | exact SubH_nil | refine SubH_cons rfl (by first | rfl | (refine congrArg (HB.mk rPattern) ?_; rw [hm, hb]; rfl)) ?_))⟩ hi⟩)
          · have n45 := u8_ne (n := 45) h16
            have hbad : okC s[k] = false := by
              have a1 : s[k] ≠ 48 := n48.resolve_right (by omega)
              have a2 : s[k] ≠ 49 := n49.resolve_right (by omega)
              have a3 : s[k] ≠ 45 := n45.resolve_right (by omega)
              simp [okC, a1, a2, a3]
            refine j_seq ?_
            refine j_region ?_
            refine jg_adr _ rfl _ rfl rfl (op_build z29 rfl pl29 .nil) ?_
            refine jg_os _ rfl (op_ostore ty29 (.base rfl) rfl rfl (Lens.id _) (.tv (.base rfl))) ?_
            refine jg_adr _ rfl _ rfl rfl (op_assign (.base rfl)) ?_
            refine jg_adr _ rfl _ rfl rfl (op_assign (.base rfl)) ?_
            refine jg_nil ?_
            refine jn_keep [2, 3, 4] [2] (.cons rfl (.cons rfl (.cons rfl .nil))) (.cons rfl .nil) ?_
            refine jn_seq (j_ret (jr_blk (jr_blk (jr_seq (jr_loop (jr_blk (jr_seq ?_)))))))
            exact jr_fin3 Try.results20 (res_cell ty29 rfl rfl rfl (Lens.id rPattern)) (res_tmp rfl) (res_tmp rfl) ⟨rfl, rfl, rfl⟩ (svP3_eq ((by unfold parseF; rw [if_neg h1, if_neg (not_all h5 hbad)])))
    · have h5 : ¬ k < s.length := by simpa using h5
      refine j_exit (je_seq (je_loop (je_blk (jn_seq (j_seq ?_)))))
      refine j_region ?_
      refine jg_adr _ rfl _ rfl rfl (op_oload ty29 (.base rfl) rfl rfl (Lens.id _)) ?_
      refine jg_adr _ rfl _ rfl rfl (op_move (.base rfl)) ?_
      refine jg_adr _ rfl _ rfl rfl (op_len_str Try.underlying9 (.base rfl)) ?_
      refine jg_os _ rfl (op_ostore ty29 (.base rfl) rfl rfl (Lens.id _) (.tv (.base rfl))) ?_
      refine jg_adr _ rfl _ rfl rfl (op_assign (.base rfl)) ?_
      refine jg_adr _ rfl _ rfl rfl (op_assign (.base rfl)) ?_
      refine jg_nil ?_
      refine jn_keep [2, 3, 4] [2] (.cons rfl (.cons rfl (.cons rfl .nil))) (.cons rfl .nil) ?_
      refine jn_seq (j_ret ?_)
      exact jr_fin3 Try.results20 (res_cell ty29 rfl rfl rfl (Lens.id rPattern)) (res_tmp rfl) (res_tmp rfl) ⟨rfl, rfl, rfl⟩ (svP3_eq ((by have e : k = s.length := (by omega); subst e; rw [List.take_length] at hall ⊢; unfold parseF; rw [if_neg h1, if_pos hall])))

theorem rparse_ok (s : List UInt8) : Ct Try.prog 21 [.raw (strV s)] (svP3 (parseF s)) := by
  refine ct_intro Try.func21 rfl rfl Try.ntmps21 rfl rfl ?_
  intro w0 ok0
  refine j_seq ?_
  refine j_region ?_
  refine jg_os _ rfl (op_alloc _ z29 rfl rfl rfl) ?_
  refine jg_adr _ rfl _ rfl rfl (op_assign (.base rfl)) ?_
  refine jg_adr _ rfl _ rfl rfl (op_assign (.base rfl)) ?_
  refine jg_nil ?_
  refine jn_keep [0, 2] [2] (.cons rfl (.cons rfl .nil)) (.cons rfl .nil) ?_
  refine jn_seq (j_seq (j_seq ?_))
  refine j_region ?_
  refine jg_adr _ rfl _ rfl rfl (op_move (.base rfl)) ?_
  refine jg_adr _ rfl _ rfl rfl (op_len_str Try.underlying9 (.base rfl)) ?_
  refine jg_adr _ rfl _ rfl rfl (op_gtr (.base rfl) (.base rfl)) ?_
  refine jg_nil ?_
  refine jn_keep [0, 2, 9] [2] (.cons rfl (.cons rfl (.cons rfl .nil))) (.cons rfl .nil) ?_
  refine jn_seq ?_
  refine j_cond rfl (fun h1 => ?_) (fun h1 => ?_)
  · have h1 : s.length > 8 := by simp at h1; omega
    refine j_seq ?_
    refine j_region ?_
    refine jg_adr _ rfl _ rfl rfl (op_build z29 rfl pl29 .nil) ?_
    refine jg_os _ rfl (op_ostore ty29 (.base rfl) rfl rfl (Lens.id _) (.tv (.base rfl))) ?_
    refine jg_adr _ rfl _ rfl rfl (op_assign (.base rfl)) ?_
    refine jg_adr _ rfl _ rfl rfl (op_assign (.base rfl)) ?_
    refine jg_nil ?_
    refine jn_keep [2, 3, 4] [2] (.cons rfl (.cons rfl (.cons rfl .nil))) (.cons rfl .nil) ?_
    refine jn_seq (j_ret (jr_seq ?_))
    exact jr_fin3 Try.results21 (res_cell ty29 rfl rfl rfl (Lens.id rPattern)) (res_tmp rfl) (res_tmp rfl) ⟨rfl, rfl, rfl⟩ (svP3_eq ((if_pos h1).symm))
  · have h1 : ¬ s.length > 8 := by simp at h1; omega
    refine j_skip (jn_seq (j_seq ?_))
    refine j_region ?_
    refine jg_adr _ rfl _ rfl rfl (op_build z29 rfl pl29 .nil) ?_
    refine jg_os _ rfl (op_alloc _ z29 rfl rfl rfl) ?_
    refine jg_os _ rfl (op_ostore ty29 (.base rfl) rfl rfl (Lens.id _) (.tv (.base rfl))) ?_
    refine jg_nil ?_
    refine jn_keep [0, 2, 5] [2, 5] (.cons rfl (.cons rfl (.cons rfl .nil))) (.cons rfl (.cons rfl .nil)) ?_
    refine jn_seq (j_seq (j_seq ?_))
    refine j_region ?_
    refine jg_adr _ rfl _ rfl rfl (op_assign (.base rfl)) ?_
    refine jg_nil ?_
    refine jn_keep [0, 2, 5, 6] [2, 5] (.cons rfl (.cons rfl (.cons rfl (.cons rfl .nil)))) (.cons rfl (.cons rfl .nil)) ?_
    refine jn_seq (j_block ?_)
    refine j_loopp (ι := Nat) (fun k => ⟨[(0, .raw (strV s)), (2, .optr 2 rPattern.n 0 0), (5, .optr 5 rPattern.n 0 0), (6, .raw (.int .i64 ((k : Nat))))], [(2, ⟨rPattern, [(0, 0)]⟩), (5, ⟨rPattern, [((maskN (s.take k) : Nat), (bitsN (s.take k) : Nat))]⟩)]⟩) (fun k => k ≤ s.length ∧ (s.take k).all okC = true) (fun k => s.length - k) 0 (⟨Nat.zero_le _, rfl⟩) (fun a w hi => (Sub.inv ⟨(by repeat (first | exact SubS_nil | refine SubS_cons rfl (by first | rfl | (simp; done) | assumption) ?_)), (by repeat (first | exact SubH_nil | refine SubH_cons rfl (by first | rfl | (simp; done) | assumption) ?_))⟩ hi)) ?_
    rintro k ⟨hk, hall⟩
    have h2k : 2 ^ k ≤ 2 ^ 8 := Nat.pow_le_pow_right (by omega) (by omega)
    rw [show (2 : Nat) ^ 8 = 256 from rfl] at h2k
    have hml := maskN_lt (s.take k)
    have hbl := bitsN_lt (s.take k)
    rw [List.length_take, Nat.min_eq_left hk] at hml hbl
    refine j_seq (j_seq ?_)
    refine j_region ?_
    refine jg_adr _ rfl _ rfl rfl (op_move (.base rfl)) ?_
    refine jg_adr _ rfl _ rfl rfl (op_move (.base rfl)) ?_
    refine jg_adr _ rfl _ rfl rfl (op_len_str Try.underlying9 (.base rfl)) ?_
    refine jg_adr _ rfl _ rfl rfl (op_lss (.base rfl) (.base rfl)) ?_
    refine jg_nil ?_
    refine jn_keep [0, 2, 5, 6, 15] [2, 5] (.cons rfl (.cons rfl (.cons rfl (.cons rfl (.cons rfl .nil))))) (.cons rfl (.cons rfl .nil)) ?_
    refine jn_seq ?_
    refine j_cond rfl (fun h5 => ?_) (fun h5 => ?_)
    · have h5 : k < s.length := by simpa using h5
      have hm := mask_snoc h5
      have hb := bits_snoc h5
      refine j_skip (jn_seq (j_seq (j_block (j_seq ?_))))
      refine j_region ?_
      refine jg_adr _ rfl _ rfl rfl (op_ofield fld29_0 (.base rfl)) ?_
      refine jg_adr _ rfl _ rfl rfl (op_oload ty3 (.base rfl) rfl rfl ln29_0) ?_
      refine jg_adr _ rfl _ rfl rfl (op_mul (.base rfl) (.base rfl) (show _ = ((2 * maskN (s.take k) : Nat) : Int) from (w64 (by omega)).trans (by omega))) ?_
      refine jg_adr _ rfl _ rfl rfl (op_ofield fld29_0 (.base rfl)) ?_
      refine jg_os _ rfl (op_ostore ty3 (.base rfl) rfl rfl ln29_0 (.raw (.base rfl) rfl)) ?_
      refine jg_nil ?_
      refine jn_keep [0, 2, 5, 6] [2, 5] (.cons rfl (.cons rfl (.cons rfl (.cons rfl .nil)))) (.cons rfl (.cons rfl .nil)) ?_
      refine jn_seq (j_seq ?_)
      refine j_region ?_
      refine jg_adr _ rfl _ rfl rfl (op_ofield fld29_1 (.base rfl)) ?_
      refine jg_adr _ rfl _ rfl rfl (op_oload ty3 (.base rfl) rfl rfl ln29_1) ?_
      refine jg_adr _ rfl _ rfl rfl (op_mul (.base rfl) (.base rfl) (show _ = ((2 * bitsN (s.take k) : Nat) : Int) from (w64 (by omega)).trans (by omega))) ?_
      refine jg_adr _ rfl _ rfl rfl (op_ofield fld29_1 (.base rfl)) ?_
      refine jg_os _ rfl (op_ostore ty3 (.base rfl) rfl rfl ln29_1 (.raw (.base rfl) rfl)) ?_
      refine jg_nil ?_
      refine jn_keep [0, 2, 5, 6] [2, 5] (.cons rfl (.cons rfl (.cons rfl (.cons rfl .nil)))) (.cons rfl (.cons rfl .nil)) ?_
      refine jn_seq (j_seq (j_seq ?_))
      refine j_region ?_
      refine jg_adr _ rfl _ rfl rfl (op_move (.base rfl)) ?_
      refine jg_adr _ rfl _ rfl rfl (op_move (.base rfl)) ?_
      refine jg_adr _ rfl _ rfl rfl (op_sindex Try.underlying9 (.base rfl) (.base rfl) rfl (List.getElem?_eq_getElem h5)) ?_
      refine jg_adr _ rfl _ rfl rfl (op_neq (.base rfl) (.base rfl)) ?_
      refine jg_adr _ rfl _ rfl rfl (op_move (.base rfl)) ?_
      refine jg_gd _ _ _ _ _ _ rfl rfl rfl rfl rfl (fun hg => op_move (.base rfl)) ?_
      refine jg_gd _ _ _ _ _ _ rfl rfl rfl rfl rfl (fun hg => op_move (.base rfl)) ?_
      refine jg_gd _ _ _ _ _ _ rfl rfl rfl rfl rfl (fun hg => op_sindex Try.underlying9 (.gd rfl hg) (.gd rfl hg) rfl (List.getElem?_eq_getElem h5)) ?_
      refine jg_gd _ _ _ _ _ _ rfl rfl rfl rfl rfl (fun hg => op_neq (.gd rfl hg) (.base rfl)) ?_
      refine jg_adr _ rfl _ rfl rfl (op_pick_and (.base rfl) (.base rfl) rfl (by intro h; first | (rw [h]; rfl) | (rw [hg, h]; rfl) | (rw [h, hg]; rfl) | simp_all)) ?_
      refine jg_adr _ rfl _ rfl rfl (op_move (.base rfl)) ?_
      refine jg_gd _ _ _ _ _ _ rfl rfl rfl rfl rfl (fun hg => op_move (.base rfl)) ?_
      refine jg_gd _ _ _ _ _ _ rfl rfl rfl rfl rfl (fun hg => op_move (.base rfl)) ?_
      refine jg_gd _ _ _ _ _ _ rfl rfl rfl rfl rfl (fun hg => op_sindex Try.underlying9 (.gd rfl hg) (.gd rfl hg) rfl (List.getElem?_eq_getElem h5)) ?_
      refine jg_gd _ _ _ _ _ _ rfl rfl rfl rfl rfl (fun hg => op_neq (.gd rfl hg) (.base rfl)) ?_
      refine jg_adr _ rfl _ rfl rfl (op_pick_and (.base rfl) (.base rfl) rfl (by intro h; first | (rw [h]; rfl) | (rw [hg, h]; rfl) | (rw [h, hg]; rfl) | simp_all)) ?_
      refine jg_nil ?_
      refine jn_keep [0, 2, 5, 6, 41] [2, 5] (.cons rfl (.cons rfl (.cons rfl (.cons rfl (.cons rfl .nil))))) (.cons rfl (.cons rfl .nil)) ?_
      refine jn_seq ?_
      refine j_cond rfl (fun h9 => ?_) (fun h9 => ?_)
      · have hbad : okC s[k] = false := by
          simp only [Bool.and_eq_true, bne_iff_ne] at h9
          have a1 : s[k] ≠ 48 := fun e => h9.1.1 (by rw [e]; rfl)
          have a2 : s[k] ≠ 49 := fun e => h9.1.2 (by rw [e]; rfl)
          have a3 : s[k] ≠ 45 := fun e => h9.2 (by rw [e]; rfl)
          simp [okC, a1, a2, a3]
        refine j_seq ?_
        refine j_region ?_
        refine jg_adr _ rfl _ rfl rfl (op_build z29 rfl pl29 .nil) ?_
        refine jg_os _ rfl (op_ostore ty29 (.base rfl) rfl rfl (Lens.id _) (.tv (.base rfl))) ?_
        refine jg_adr _ rfl _ rfl rfl (op_assign (.base rfl)) ?_
        refine jg_adr _ rfl _ rfl rfl (op_assign (.base rfl)) ?_
        refine jg_nil ?_
        refine jn_keep [2, 3, 4] [2] (.cons rfl (.cons rfl (.cons rfl .nil))) (.cons rfl .nil) ?_
        refine jn_seq (j_ret (jr_seq (jr_blk (jr_seq (jr_loop (jr_blk (jr_seq ?_)))))))
        exact jr_fin3 Try.results21 (res_cell ty29 rfl rfl rfl (Lens.id rPattern)) (res_tmp rfl) (res_tmp rfl) ⟨rfl, rfl, rfl⟩ (svP3_eq ((by unfold parseF; rw [if_neg h1, if_neg (not_all h5 hbad)])))
      · have hv : s[k] = 48 ∨ s[k] = 49 ∨ s[k] = 45 := by
          by_cases a1 : ((s[k].toNat : Int) == 48) = true
          · exact .inl (u8_eq (n := 48) (by omega) a1)
          by_cases a2 : ((s[k].toNat : Int) == 49) = true
          · exact .inr (.inl (u8_eq (n := 49) (by omega) a2))
          by_cases a3 : ((s[k].toNat : Int) == 45) = true
          · exact .inr (.inr (u8_eq (n := 45) (by omega) a3))
          exfalso; simp at a1 a2 a3 h9; omega
        have hall2 := all_snoc h5 hall (by rcases hv with e | e | e <;> rw [e] <;> rfl)
        refine j_skip (jn_seq (j_seq ?_))
        refine j_region ?_
        refine jg_adr _ rfl _ rfl rfl (op_move (.base rfl)) ?_
        refine jg_adr _ rfl _ rfl rfl (op_move (.base rfl)) ?_
        refine jg_adr _ rfl _ rfl rfl (op_sindex Try.underlying9 (.base rfl) (.base rfl) rfl (List.getElem?_eq_getElem h5)) ?_
        refine jg_adr _ rfl _ rfl rfl (op_neq (.base rfl) (.base rfl)) ?_
        refine jg_nil ?_
        refine jn_keep [0, 2, 5, 6, 46] [2, 5] (.cons rfl (.cons rfl (.cons rfl (.cons rfl (.cons rfl .nil))))) (.cons rfl (.cons rfl .nil)) ?_
        refine jn_seq ?_
        refine j_cond rfl (fun h11 => ?_) (fun h11 => ?_)
        · have hv2 : s[k] = 48 ∨ s[k] = 49 := by
            rcases hv with e | e | e
            · exact .inl e
            · exact .inr e
            · rw [e] at h11; exact absurd h11 (by decide)
          have hm2 : maskN (s.take (k + 1)) = 2 * maskN (s.take k) + 1 := by rw [hm]; rcases hv2 with e | e <;> rw [e] <;> rfl
          clear hm
          have hm := hm2
          have hd : 0 ≤ (s[k].toNat : Int) - 48 ∧ (s[k].toNat : Int) - 48 ≤ 1 := by rcases hv2 with e | e <;> rw [e] <;> decide
          have hb2 : ((bitsN (s.take (k + 1)) : Nat) : Int) = ((2 * bitsN (s.take k) : Nat) : Int) + ((s[k].toNat : Int) - 48) := by rw [hb]; rcases hv2 with e | e <;> rw [e] <;> simp
          clear hb
          have hb := hb2
          refine j_seq ?_
          refine j_region ?_
          refine jg_adr _ rfl _ rfl rfl (op_ofield fld29_0 (.base rfl)) ?_
          refine jg_adr _ rfl _ rfl rfl (op_oload ty3 (.base rfl) rfl rfl ln29_0) ?_
          refine jg_adr _ rfl _ rfl rfl (op_add (.base rfl) (.base rfl) (show _ = ((2 * maskN (s.take k) + 1 : Nat) : Int) from (w64 (by omega)).trans (by omega))) ?_
          refine jg_adr _ rfl _ rfl rfl (op_ofield fld29_0 (.base rfl)) ?_
          refine jg_os _ rfl (op_ostore ty3 (.base rfl) rfl rfl ln29_0 (.raw (.base rfl) rfl)) ?_
          refine jg_nil ?_
          refine jn_keep [0, 2, 5, 6] [2, 5] (.cons rfl (.cons rfl (.cons rfl (.cons rfl .nil)))) (.cons rfl (.cons rfl .nil)) ?_
          refine jn_seq ?_
          refine j_drawE mo (by kernel_rfl) (
            AE.cons _ _ _ rfl (gh_ga [5] (ga_adr rfl rfl rfl (op_ofield fld29_1 (.base rfl))) (by kernel_rfl)) (
            AE.cons _ _ _ rfl (gh_ga [5] (ga_adr rfl rfl rfl (op_oload ty3 (.base rfl) rfl rfl ln29_1)) (by kernel_rfl)) (
            AE.cons _ _ _ rfl (gh_ga [] (ga_adr rfl rfl rfl (op_move (.base rfl))) (by kernel_rfl)) (
            AE.cons _ _ _ rfl (gh_ga [] (ga_adr rfl rfl rfl (op_move (.base rfl))) (by kernel_rfl)) (
            AE.cons _ _ _ rfl (gh_ga [] (ga_adr rfl rfl rfl (op_sindex Try.underlying9 (.base rfl) (.base rfl) rfl (List.getElem?_eq_getElem h5))) (by kernel_rfl)) (
            AE.cons _ _ _ rfl (gh_ga [] (ga_adr rfl rfl rfl (op_sub (.base rfl) (.base rfl) (wu8 (by omega)))) (by kernel_rfl)) (
            AE.cons _ _ _ rfl (gh_ga [] (ga_adr rfl rfl rfl (op_conv ⟨_, Try.underlying5⟩ Try.underlying3 (.base rfl) (w64 (by omega)))) (by kernel_rfl)) (
            AE.cons _ _ _ rfl (gh_ga [] (ga_adr rfl rfl rfl (op_add (.base rfl) (.base rfl) (w64 (by omega)))) (by kernel_rfl)) (
            AE.cons _ _ _ rfl (gh_ga [5] (ga_adr rfl rfl rfl (op_ofield fld29_1 (.base rfl))) (by kernel_rfl)) (
            AE.cons _ _ _ rfl (gh_store ty3 (.base rfl) rfl rfl ln29_1 (.raw (.base rfl) rfl)) (
            AE.nil))))))))))) (by kernel_rfl) ?_
          refine jn_keep [0, 2, 5, 6] [2, 5] (.cons rfl (.cons rfl (.cons rfl (.cons rfl .nil)))) (.cons rfl (.cons rfl .nil)) ?_
          refine jn_blk (jn_seq ?_)
          refine j_region ?_
          refine jg_adr _ rfl _ rfl rfl (op_move (.base rfl)) ?_
          refine jg_adr _ rfl _ rfl rfl (op_add (.base rfl) (.base rfl) (w64 (by omega))) ?_
          refine jg_adr _ rfl _ rfl rfl (op_assign (.base rfl)) ?_
          refine jg_nil ?_
          refine jn_keep [0, 2, 5, 6] [2, 5] (.cons rfl (.cons rfl (.cons rfl (.cons rfl .nil)))) (.cons rfl (.cons rfl .nil)) ?_
          exact jn_loop (fun a w hi => ⟨k + 1, (by omega), ⟨by omega, hall2⟩, Sub.inv ⟨(by repeat (first | exact SubS_nil | refine SubS_cons rfl (by first | rfl | (simp; done) | assumption) ?_)), (by repeat (first | exact SubH_nil | refine SubH_cons rfl (by first | rfl | (refine congrArg (HB.mk rPattern) ?_; rw [hm, hb]; rfl)) ?_))⟩ hi⟩)
        · have hv2 : s[k] = 45 := by
            simp only [bne_eq_false_iff_eq] at h11
            exact u8_eq (n := 45) (by omega) (by rw [beq_iff_eq]; exact h11)
          rw [hv2] at hm hb
          refine j_skip (jn_blk (jn_seq ?_))
          refine j_region ?_
          refine jg_adr _ rfl _ rfl rfl (op_move (.base rfl)) ?_
          refine jg_adr _ rfl _ rfl rfl (op_add (.base rfl) (.base rfl) (w64 (by omega))) ?_
          refine jg_adr _ rfl _ rfl rfl (op_assign (.base rfl)) ?_
          refine jg_nil ?_
          refine jn_keep [0, 2, 5, 6] [2, 5] (.cons rfl (.cons rfl (.cons rfl (.cons rfl .nil)))) (.cons rfl (.cons rfl .nil)) ?_
          exact jn_loop (fun a w hi => ⟨k + 1, (by omega), ⟨by omega, hall2⟩, Sub.inv ⟨(by repeat (first | exact SubS_nil | refine SubS_cons rfl (by first | rfl | (simp; done) | assumption) ?_)), (by repeat (first | exact SubH_nil | refine SubH_cons rfl (by first | rfl | (refine congrArg (HB.mk rPattern) ?_; rw [hm, hb]; rfl)) ?_))⟩ hi⟩)
    · have h5 : ¬ k < s.length := by simpa using h5
      refine j_exit (je_seq (je_loop (je_blk (jn_seq (j_seq ?_)))))
      refine j_region ?_
      refine jg_adr _ rfl _ rfl rfl (op_oload ty29 (.base rfl) rfl rfl (Lens.id _)) ?_
      refine jg_adr _ rfl _ rfl rfl (op_move (.base rfl)) ?_
      refine jg_adr _ rfl _ rfl rfl (op_len_str Try.underlying9 (.base rfl)) ?_
      refine jg_os _ rfl (op_ostore ty29 (.base rfl) rfl rfl (Lens.id _) (.tv (.base rfl))) ?_
      refine jg_adr _ rfl _ rfl rfl (op_assign (.base rfl)) ?_
      refine jg_adr _ rfl _ rfl rfl (op_assign (.base rfl)) ?_
      refine jg_nil ?_
      refine jn_keep [2, 3, 4] [2] (.cons rfl (.cons rfl (.cons rfl .nil))) (.cons rfl .nil) ?_
      refine jn_seq (j_ret ?_)
      exact jr_fin3 Try.results21 (res_cell ty29 rfl rfl rfl (Lens.id rPattern)) (res_tmp rfl) (res_tmp rfl) ⟨rfl, rfl, rfl⟩ (svP3_eq ((by have e : k = s.length := (by omega); subst e; rw [List.take_length] at hall ⊢; unfold parseF; rw [if_neg h1, if_pos hall])))

end Go.Proofs.Ytmdhmgngomlheaa
