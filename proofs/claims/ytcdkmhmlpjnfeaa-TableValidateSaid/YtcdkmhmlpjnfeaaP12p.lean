import Derived.Test.YtcdkmhmlpjnfeaaP12o
namespace Go.Proofs.Ytcdkmhmlpjnfeaa
open Go.Eng
set_option maxRecDepth 100000
set_option maxHeartbeats 4000000
set_option linter.unusedVariables false
set_option linter.unusedSimpArgs false


def validType (t : TType) (en : List TEnum) : Bool := if 1 ≤ t.1 ∧ t.1 ≤ 5 then decide (t.2 = 0) else if t.1 = 6 then decide (0 ≤ t.2) && decide (t.2 < en.length) else false
def sv22 (R : Int × Int) : SV := .tup2 (.raw (.int .i64 R.1)) (.raw (.int .i64 R.2))
theorem sv22_eq {R : Int × Int} {a b : Int} (h : (a, b) = R) : SV.tup2 (.raw (.int .i64 a)) (.raw (.int .i64 b)) = sv22 R := by subst h; rfl
def memb (en : List TEnum) (k : Int) : Int := ((en[k.toNat]?.getD ([], [])).2.length : Int)
def bounds (t : TType) (en : List TEnum) : Int × Int :=
  if validType t en = false then (0, -1) else if t.1 = 1 then (0, 1) else if t.1 = 2 then (-1000000000000, 1000000000000) else if t.1 = 3 then (-1000000000000000, 1000000000000000)
  else if t.1 = 4 then (-1000000000, 1000000000) else if t.1 = 5 then (0, 109572) else (0, memb en t.2 - 1)
theorem fitsEn : Fits (rSlice rEnum) (fun en => en.length ≤ 9223372036854775807 ∧ ∀ x ∈ en, True ∧ (x.2.length ≤ 9223372036854775807 ∧ ∀ y ∈ x.2, True)) := fits_slice (fits_pair fits_any (fits_slice fits_any))
theorem vt6 {t : TType} {en : List TEnum} (h : validType t en = true) (h1 : ¬ t.1 = 1) (h2 : ¬ t.1 = 2) (h3 : ¬ t.1 = 3) (h4 : ¬ t.1 = 4) (h5 : ¬ t.1 = 5) : t.1 = 6 ∧ 0 ≤ t.2 ∧ t.2 < en.length := by
  unfold validType at h
  rw [if_neg (by omega)] at h
  split at h
  · rename_i h6; simp at h; exact ⟨h6, h⟩
  · cases h
def inB (t : TType) (en : List TEnum) (n : Int) : Bool := decide ((bounds t en).1 ≤ n) && decide (n ≤ (bounds t en).2)
def badA (x : TRow) : Bool := (!(validR x.1) || decide (x.1.1 = x.1.2)) || decide (x.2.1 ≥ x.2.2.1)
def badB (t : TTable) (en : List TEnum) (x : TRow) : Bool := (!(inB t.2.1 en x.2.1) || !(inB t.2.1 en (x.2.2.1 - 1))) || !(inB t.2.2.1 en x.2.2.2)
def badR (t : TTable) (en : List TEnum) (x : TRow) : Bool := badA x || badB t en x
def valR (t : TTable) (en : List TEnum) : Int × Int := if 64 < t.2.2.2.length then (64, 4) else if (!(validType t.2.1 en) || !(validType t.2.2.1 en)) = true then (-1, 8) else valF (badR t en) t.2.2.2 t.2.2.2.length
def KeyI (x : TRow) : Prop := -9223372036854775808 ≤ x.2.1 ∧ x.2.2.1 ≤ 9223372036854775807
theorem inB_t {t : TType} {en : List TEnum} {n : Int} : inB t en n = true ↔ (bounds t en).1 ≤ n ∧ n ≤ (bounds t en).2 := by simp [inB]
theorem inB_f {t : TType} {en : List TEnum} {n : Int} : inB t en n = false ↔ n < (bounds t en).1 ∨ (bounds t en).2 < n := by rw [← Bool.not_eq_true, inB_t]; omega

theorem validType_ok (t : TType) (en : List TEnum) : Ct Try.prog 31 [.tv rType t, .tv (rSlice rEnum) en] (.raw (.bool (validType t en))) := by
  refine ct_intro Try.func31 rfl rfl Try.ntmps31 rfl rfl ?_
  intro w0 ok0
  refine j_len 1 rfl (fun hl0 => ?_)
  refine j_seq ?_
  refine j_region ?_
  refine jg_os _ rfl (op_box (.tv (.base rfl)) rfl rfl rfl) ?_
  refine jg_adr _ rfl _ rfl rfl (op_assign (.base rfl)) ?_
  refine jg_nil ?_
  refine jn_keep [1, 2] [2] (.cons rfl (.cons rfl .nil)) (.cons rfl .nil) ?_
  refine jn_seq (j_seq (j_seq ?_))
  refine j_region ?_
  refine jg_adr _ rfl _ rfl rfl (op_ofield fld23_0 (.base rfl)) ?_
  refine jg_adr _ rfl _ rfl rfl (op_oload ty3 (.base rfl) rfl rfl ln23_0) ?_
  refine jg_nil ?_
  refine jn_keep [1, 2, 6] [2] (.cons rfl (.cons rfl (.cons rfl .nil))) (.cons rfl .nil) ?_
  refine jn_seq (j_block (j_seq (j_seq ?_)))
  refine j_region ?_
  refine jg_adr _ rfl _ rfl rfl (op_eql (.base rfl) (.base rfl)) ?_
  refine jg_adr _ rfl _ rfl rfl (op_assign (.base rfl)) ?_
  refine jg_nil ?_
  refine jn_keep [1, 2, 6, 7] [2] (.cons rfl (.cons rfl (.cons rfl (.cons rfl .nil)))) (.cons rfl .nil) ?_
  refine jn_seq ?_
  refine j_cond rfl (fun h2 => ?_) (fun h2 => ?_)
  · have g2 := h2; try simp at h2
    refine j_skip (jn_seq ?_)
    refine j_cond_t rfl g2 (j_seq ?_)
    refine j_region ?_
    refine jg_adr _ rfl _ rfl rfl (op_ofield fld23_1 (.base rfl)) ?_
    refine jg_adr _ rfl _ rfl rfl (op_oload ty3 (.base rfl) rfl rfl ln23_1) ?_
    refine jg_adr _ rfl _ rfl rfl (op_eql (.base rfl) (.base rfl)) ?_
    refine jg_adr _ rfl _ rfl rfl (op_assign (.base rfl)) ?_
    refine jg_nil ?_
    refine jn_keep [4] [] (.cons rfl .nil) .nil ?_
    refine jn_seq (j_ret (jr_blk (jr_seq ?_)))
    exact jr_fin1 Try.results31 (res_tmp rfl) rfl (rb (by subst_vars; first | rfl | (simp [validType]; done) | (simp [validType, *]; done) | (rw [Bool.eq_iff_iff]; simp [validType, *]; omega) | (rw [Bool.eq_iff_iff]; simp [validType]; omega) | (unfold validType; simp; omega) | (unfold validType; (repeat' split) <;> first | rfl | omega | (rw [Bool.eq_iff_iff]; simp; omega) | (simp_all; done) | (simp_all; omega) | (exfalso; omega))))
  · have g2 := h2; try simp at h2
    refine j_seq ?_
    refine j_region ?_
    refine jg_adr _ rfl _ rfl rfl (op_eql (.base rfl) (.base rfl)) ?_
    refine jg_adr _ rfl _ rfl rfl (op_assign (.base rfl)) ?_
    refine jg_nil ?_
    refine jn_keep [1, 2, 6, 7] [2] (.cons rfl (.cons rfl (.cons rfl (.cons rfl .nil)))) (.cons rfl .nil) ?_
    refine jn_seq ?_
    refine j_cond rfl (fun h3 => ?_) (fun h3 => ?_)
    · have g3 := h3; try simp at h3
      refine j_skip (jn_seq ?_)
      refine j_cond_t rfl g3 (j_seq ?_)
      refine j_region ?_
      refine jg_adr _ rfl _ rfl rfl (op_ofield fld23_1 (.base rfl)) ?_
      refine jg_adr _ rfl _ rfl rfl (op_oload ty3 (.base rfl) rfl rfl ln23_1) ?_
      refine jg_adr _ rfl _ rfl rfl (op_eql (.base rfl) (.base rfl)) ?_
      refine jg_adr _ rfl _ rfl rfl (op_assign (.base rfl)) ?_
      refine jg_nil ?_
      refine jn_keep [4] [] (.cons rfl .nil) .nil ?_
      refine jn_seq (j_ret (jr_blk (jr_seq ?_)))
      exact jr_fin1 Try.results31 (res_tmp rfl) rfl (rb (by subst_vars; first | rfl | (simp [validType]; done) | (simp [validType, *]; done) | (rw [Bool.eq_iff_iff]; simp [validType, *]; omega) | (rw [Bool.eq_iff_iff]; simp [validType]; omega) | (unfold validType; simp; omega) | (unfold validType; (repeat' split) <;> first | rfl | omega | (rw [Bool.eq_iff_iff]; simp; omega) | (simp_all; done) | (simp_all; omega) | (exfalso; omega))))
    · have g3 := h3; try simp at h3
      refine j_seq ?_
      refine j_region ?_
      refine jg_adr _ rfl _ rfl rfl (op_eql (.base rfl) (.base rfl)) ?_
      refine jg_adr _ rfl _ rfl rfl (op_assign (.base rfl)) ?_
      refine jg_nil ?_
      refine jn_keep [1, 2, 6, 7] [2] (.cons rfl (.cons rfl (.cons rfl (.cons rfl .nil)))) (.cons rfl .nil) ?_
      refine jn_seq ?_
      refine j_cond rfl (fun h4 => ?_) (fun h4 => ?_)
      · have g4 := h4; try simp at h4
        refine j_skip (jn_seq ?_)
        refine j_cond_t rfl g4 (j_seq ?_)
        refine j_region ?_
        refine jg_adr _ rfl _ rfl rfl (op_ofield fld23_1 (.base rfl)) ?_
        refine jg_adr _ rfl _ rfl rfl (op_oload ty3 (.base rfl) rfl rfl ln23_1) ?_
        refine jg_adr _ rfl _ rfl rfl (op_eql (.base rfl) (.base rfl)) ?_
        refine jg_adr _ rfl _ rfl rfl (op_assign (.base rfl)) ?_
        refine jg_nil ?_
        refine jn_keep [4] [] (.cons rfl .nil) .nil ?_
        refine jn_seq (j_ret (jr_blk (jr_seq ?_)))
        exact jr_fin1 Try.results31 (res_tmp rfl) rfl (rb (by subst_vars; first | rfl | (simp [validType]; done) | (simp [validType, *]; done) | (rw [Bool.eq_iff_iff]; simp [validType, *]; omega) | (rw [Bool.eq_iff_iff]; simp [validType]; omega) | (unfold validType; simp; omega) | (unfold validType; (repeat' split) <;> first | rfl | omega | (rw [Bool.eq_iff_iff]; simp; omega) | (simp_all; done) | (simp_all; omega) | (exfalso; omega))))
      · have g4 := h4; try simp at h4
        refine j_seq ?_
        refine j_region ?_
        refine jg_adr _ rfl _ rfl rfl (op_eql (.base rfl) (.base rfl)) ?_
        refine jg_adr _ rfl _ rfl rfl (op_assign (.base rfl)) ?_
        refine jg_nil ?_
        refine jn_keep [1, 2, 6, 7] [2] (.cons rfl (.cons rfl (.cons rfl (.cons rfl .nil)))) (.cons rfl .nil) ?_
        refine jn_seq ?_
        refine j_cond rfl (fun h5 => ?_) (fun h5 => ?_)
        · have g5 := h5; try simp at h5
          refine j_skip (jn_seq ?_)
          refine j_cond_t rfl g5 (j_seq ?_)
          refine j_region ?_
          refine jg_adr _ rfl _ rfl rfl (op_ofield fld23_1 (.base rfl)) ?_
          refine jg_adr _ rfl _ rfl rfl (op_oload ty3 (.base rfl) rfl rfl ln23_1) ?_
          refine jg_adr _ rfl _ rfl rfl (op_eql (.base rfl) (.base rfl)) ?_
          refine jg_adr _ rfl _ rfl rfl (op_assign (.base rfl)) ?_
          refine jg_nil ?_
          refine jn_keep [4] [] (.cons rfl .nil) .nil ?_
          refine jn_seq (j_ret (jr_blk (jr_seq ?_)))
          exact jr_fin1 Try.results31 (res_tmp rfl) rfl (rb (by subst_vars; first | rfl | (simp [validType]; done) | (simp [validType, *]; done) | (rw [Bool.eq_iff_iff]; simp [validType, *]; omega) | (rw [Bool.eq_iff_iff]; simp [validType]; omega) | (unfold validType; simp; omega) | (unfold validType; (repeat' split) <;> first | rfl | omega | (rw [Bool.eq_iff_iff]; simp; omega) | (simp_all; done) | (simp_all; omega) | (exfalso; omega))))
        · have g5 := h5; try simp at h5
          refine j_region ?_
          refine jg_adr _ rfl _ rfl rfl (op_eql (.base rfl) (.base rfl)) ?_
          refine jg_adr _ rfl _ rfl rfl (op_assign (.base rfl)) ?_
          refine jg_nil ?_
          refine jn_keep [1, 2, 6, 7] [2] (.cons rfl (.cons rfl (.cons rfl (.cons rfl .nil)))) (.cons rfl .nil) ?_
          refine jn_seq ?_
          refine j_cond rfl (fun h6 => ?_) (fun h6 => ?_)
          · have g6 := h6; try simp at h6
            refine j_seq ?_
            refine j_region ?_
            refine jg_adr _ rfl _ rfl rfl (op_ofield fld23_1 (.base rfl)) ?_
            refine jg_adr _ rfl _ rfl rfl (op_oload ty3 (.base rfl) rfl rfl ln23_1) ?_
            refine jg_adr _ rfl _ rfl rfl (op_eql (.base rfl) (.base rfl)) ?_
            refine jg_adr _ rfl _ rfl rfl (op_assign (.base rfl)) ?_
            refine jg_nil ?_
            refine jn_keep [4] [] (.cons rfl .nil) .nil ?_
            refine jn_seq (j_ret (jr_blk (jr_seq ?_)))
            exact jr_fin1 Try.results31 (res_tmp rfl) rfl (rb (by subst_vars; first | rfl | (simp [validType]; done) | (simp [validType, *]; done) | (rw [Bool.eq_iff_iff]; simp [validType, *]; omega) | (rw [Bool.eq_iff_iff]; simp [validType]; omega) | (unfold validType; simp; omega) | (unfold validType; (repeat' split) <;> first | rfl | omega | (rw [Bool.eq_iff_iff]; simp; omega) | (simp_all; done) | (simp_all; omega) | (exfalso; omega))))
          · have g6 := h6; try simp at h6
            refine j_seq ?_
            refine j_region ?_
            refine jg_adr _ rfl _ rfl rfl (op_eql (.base rfl) (.base rfl)) ?_
            refine jg_adr _ rfl _ rfl rfl (op_assign (.base rfl)) ?_
            refine jg_nil ?_
            refine jn_keep [1, 2, 16] [2] (.cons rfl (.cons rfl (.cons rfl .nil))) (.cons rfl .nil) ?_
            refine jn_seq ?_
            refine j_cond rfl (fun h8 => ?_) (fun h8 => ?_)
            · try simp at h8
              refine j_seq ?_
              refine j_region ?_
              refine jg_adr _ rfl _ rfl rfl (op_ofield fld23_1 (.base rfl)) ?_
              refine jg_adr _ rfl _ rfl rfl (op_oload ty3 (.base rfl) rfl rfl ln23_1) ?_
              refine jg_adr _ rfl _ rfl rfl (op_geq (.base rfl) (.base rfl)) ?_
              refine jg_adr _ rfl _ rfl rfl (op_move (.base rfl)) ?_
              refine jg_gd _ _ _ _ _ _ rfl rfl rfl rfl rfl (fun hg => op_ofield fld23_1 (.base rfl)) ?_
              refine jg_gd _ _ _ _ _ _ rfl rfl rfl rfl rfl (fun hg => op_oload ty3 (.gd rfl hg) rfl rfl ln23_1) ?_
              refine jg_gd _ _ _ _ _ _ rfl rfl rfl rfl rfl (fun hg => op_move (.base rfl)) ?_
              refine jg_gd _ _ _ _ _ _ rfl rfl rfl rfl rfl (fun hg => op_len Try.underlying27 (.gd rfl hg)) ?_
              refine jg_gd _ _ _ _ _ _ rfl rfl rfl rfl rfl (fun hg => op_lss (.gd rfl hg) (.gd rfl hg)) ?_
              refine jg_adr _ rfl _ rfl rfl (op_pick_and (.base rfl) (.base rfl) rfl (by intro h; first | (rw [h]; rfl) | (rw [hg, h]; rfl) | (rw [h, hg]; rfl) | simp_all)) ?_
              refine jg_adr _ rfl _ rfl rfl (op_assign (.base rfl)) ?_
              refine jg_nil ?_
              refine jn_keep [4] [] (.cons rfl .nil) .nil ?_
              refine jn_seq (j_ret (jr_blk (jr_seq ?_)))
              exact jr_fin1 Try.results31 (res_tmp rfl) rfl (rb (by subst_vars; first | rfl | (simp [validType]; done) | (simp [validType, *]; done) | (rw [Bool.eq_iff_iff]; simp [validType, *]; omega) | (rw [Bool.eq_iff_iff]; simp [validType]; omega) | (unfold validType; simp; omega) | (unfold validType; (repeat' split) <;> first | rfl | omega | (rw [Bool.eq_iff_iff]; simp; omega) | (simp_all; done) | (simp_all; omega) | (exfalso; omega))))
            · try simp at h8
              refine j_skip (jn_blk (jn_seq (j_seq ?_)))
              refine j_region ?_
              refine jg_adr _ rfl _ rfl rfl (op_assign (.base rfl)) ?_
              refine jg_nil ?_
              refine jn_keep [4] [] (.cons rfl .nil) .nil ?_
              refine jn_seq (j_ret ?_)
              exact jr_fin1 Try.results31 (res_tmp rfl) rfl (rb (by subst_vars; first | rfl | (simp [validType]; done) | (simp [validType, *]; done) | (rw [Bool.eq_iff_iff]; simp [validType, *]; omega) | (rw [Bool.eq_iff_iff]; simp [validType]; omega) | (unfold validType; simp; omega) | (unfold validType; (repeat' split) <;> first | rfl | omega | (rw [Bool.eq_iff_iff]; simp; omega) | (simp_all; done) | (simp_all; omega) | (exfalso; omega))))

theorem bounds_ok (t : TType) (en : List TEnum) : Ct Try.prog 32 [.tv rType t, .tv (rSlice rEnum) en] (sv22 (bounds t en)) := by
  refine ct_intro Try.func32 rfl rfl Try.ntmps32 rfl rfl ?_
  intro w0 ok0
  refine j_fits 1 fitsEn rfl (fun hf => ?_)
  have hl0 := hf.1
  refine j_seq ?_
  refine j_region ?_
  refine jg_os _ rfl (op_box (.tv (.base rfl)) rfl rfl rfl) ?_
  refine jg_adr _ rfl _ rfl rfl (op_assign (.base rfl)) ?_
  refine jg_adr _ rfl _ rfl rfl (op_assign (.base rfl)) ?_
  refine jg_nil ?_
  refine jn_keep [1, 2] [2] (.cons rfl (.cons rfl .nil)) (.cons rfl .nil) ?_
  refine jn_seq (j_seq (j_seq ?_))
  refine j_region ?_
  refine jg_adr _ rfl _ rfl rfl (op_oload ty23 (.base rfl) rfl rfl (Lens.id _)) ?_
  refine jg_adr _ rfl _ rfl rfl (op_move (.base rfl)) ?_
  refine jg_adr _ rfl _ rfl rfl (op_call (validType_ok _ _) (.cons (.base rfl) (.cons (.base rfl) .nil)) rfl rfl) ?_
  refine jg_adr _ rfl _ rfl rfl (op_not (.base rfl)) ?_
  refine jg_nil ?_
  refine jn_keep [1, 2, 9] [2] (.cons rfl (.cons rfl (.cons rfl .nil))) (.cons rfl .nil) ?_
  refine jn_seq ?_
  refine j_cond rfl (fun h1 => ?_) (fun h1 => ?_)
  · try simp at h1
    refine j_seq ?_
    refine j_region ?_
    refine jg_adr _ rfl _ rfl rfl (op_assign (.base rfl)) ?_
    refine jg_adr _ rfl _ rfl rfl (op_assign (.base rfl)) ?_
    refine jg_nil ?_
    refine jn_keep [4, 5] [] (.cons rfl (.cons rfl .nil)) .nil ?_
    refine jn_seq (j_ret (jr_seq ?_))
    exact jr_fin2 Try.results32 (res_tmp rfl) (res_tmp rfl) ⟨rfl, rfl⟩ (sv22_eq (by subst_vars; first | rfl | (simp [bounds]; done) | (simp [bounds, *]; done) | (unfold bounds; (repeat' split) <;> first | rfl | omega | (simp_all; done) | (simp_all; omega))))
  · try simp at h1
    refine j_skip (jn_seq (j_seq (j_seq ?_)))
    refine j_region ?_
    refine jg_adr _ rfl _ rfl rfl (op_ofield fld23_0 (.base rfl)) ?_
    refine jg_adr _ rfl _ rfl rfl (op_oload ty3 (.base rfl) rfl rfl ln23_0) ?_
    refine jg_nil ?_
    refine jn_keep [1, 2, 11] [2] (.cons rfl (.cons rfl (.cons rfl .nil))) (.cons rfl .nil) ?_
    refine jn_seq (j_block (j_seq ?_))
    refine j_region ?_
    refine jg_adr _ rfl _ rfl rfl (op_eql (.base rfl) (.base rfl)) ?_
    refine jg_adr _ rfl _ rfl rfl (op_assign (.base rfl)) ?_
    refine jg_nil ?_
    refine jn_keep [1, 2, 11, 12] [2] (.cons rfl (.cons rfl (.cons rfl (.cons rfl .nil)))) (.cons rfl .nil) ?_
    refine jn_seq ?_
    refine j_cond rfl (fun h4 => ?_) (fun h4 => ?_)
    · try simp at h4
      refine j_seq ?_
      refine j_region ?_
      refine jg_adr _ rfl _ rfl rfl (op_assign (.base rfl)) ?_
      refine jg_adr _ rfl _ rfl rfl (op_assign (.base rfl)) ?_
      refine jg_nil ?_
      refine jn_keep [4, 5] [] (.cons rfl (.cons rfl .nil)) .nil ?_
      refine jn_seq (j_ret (jr_blk (jr_seq ?_)))
      exact jr_fin2 Try.results32 (res_tmp rfl) (res_tmp rfl) ⟨rfl, rfl⟩ (sv22_eq (by subst_vars; first | rfl | (simp [bounds]; done) | (simp [bounds, *]; done) | (unfold bounds; (repeat' split) <;> first | rfl | omega | (simp_all; done) | (simp_all; omega))))
    · try simp at h4
      refine j_seq ?_
      refine j_region ?_
      refine jg_adr _ rfl _ rfl rfl (op_eql (.base rfl) (.base rfl)) ?_
      refine jg_adr _ rfl _ rfl rfl (op_assign (.base rfl)) ?_
      refine jg_nil ?_
      refine jn_keep [1, 2, 11, 14] [2] (.cons rfl (.cons rfl (.cons rfl (.cons rfl .nil)))) (.cons rfl .nil) ?_
      refine jn_seq ?_
      refine j_cond rfl (fun h6 => ?_) (fun h6 => ?_)
      · try simp at h6
        refine j_seq ?_
        refine j_region ?_
        refine jg_adr _ rfl _ rfl rfl (op_assign (.base rfl)) ?_
        refine jg_adr _ rfl _ rfl rfl (op_assign (.base rfl)) ?_
        refine jg_nil ?_
        refine jn_keep [4, 5] [] (.cons rfl (.cons rfl .nil)) .nil ?_
        refine jn_seq (j_ret (jr_blk (jr_seq ?_)))
        exact jr_fin2 Try.results32 (res_tmp rfl) (res_tmp rfl) ⟨rfl, rfl⟩ (sv22_eq (by subst_vars; first | rfl | (simp [bounds]; done) | (simp [bounds, *]; done) | (unfold bounds; (repeat' split) <;> first | rfl | omega | (simp_all; done) | (simp_all; omega))))
      · try simp at h6
        refine j_seq ?_
        refine j_region ?_
        refine jg_adr _ rfl _ rfl rfl (op_eql (.base rfl) (.base rfl)) ?_
        refine jg_adr _ rfl _ rfl rfl (op_assign (.base rfl)) ?_
        refine jg_nil ?_
        refine jn_keep [1, 2, 11, 16] [2] (.cons rfl (.cons rfl (.cons rfl (.cons rfl .nil)))) (.cons rfl .nil) ?_
        refine jn_seq ?_
        refine j_cond rfl (fun h8 => ?_) (fun h8 => ?_)
        · try simp at h8
          refine j_seq ?_
          refine j_region ?_
          refine jg_adr _ rfl _ rfl rfl (op_assign (.base rfl)) ?_
          refine jg_adr _ rfl _ rfl rfl (op_assign (.base rfl)) ?_
          refine jg_nil ?_
          refine jn_keep [4, 5] [] (.cons rfl (.cons rfl .nil)) .nil ?_
          refine jn_seq (j_ret (jr_blk (jr_seq ?_)))
          exact jr_fin2 Try.results32 (res_tmp rfl) (res_tmp rfl) ⟨rfl, rfl⟩ (sv22_eq (by subst_vars; first | rfl | (simp [bounds]; done) | (simp [bounds, *]; done) | (unfold bounds; (repeat' split) <;> first | rfl | omega | (simp_all; done) | (simp_all; omega))))
        · try simp at h8
          refine j_seq ?_
          refine j_region ?_
          refine jg_adr _ rfl _ rfl rfl (op_eql (.base rfl) (.base rfl)) ?_
          refine jg_adr _ rfl _ rfl rfl (op_assign (.base rfl)) ?_
          refine jg_nil ?_
          refine jn_keep [1, 2, 11, 18] [2] (.cons rfl (.cons rfl (.cons rfl (.cons rfl .nil)))) (.cons rfl .nil) ?_
          refine jn_seq ?_
          refine j_cond rfl (fun h10 => ?_) (fun h10 => ?_)
          · try simp at h10
            refine j_seq ?_
            refine j_region ?_
            refine jg_adr _ rfl _ rfl rfl (op_assign (.base rfl)) ?_
            refine jg_adr _ rfl _ rfl rfl (op_assign (.base rfl)) ?_
            refine jg_nil ?_
            refine jn_keep [4, 5] [] (.cons rfl (.cons rfl .nil)) .nil ?_
            refine jn_seq (j_ret (jr_blk (jr_seq ?_)))
            exact jr_fin2 Try.results32 (res_tmp rfl) (res_tmp rfl) ⟨rfl, rfl⟩ (sv22_eq (by subst_vars; first | rfl | (simp [bounds]; done) | (simp [bounds, *]; done) | (unfold bounds; (repeat' split) <;> first | rfl | omega | (simp_all; done) | (simp_all; omega))))
          · try simp at h10
            refine j_seq ?_
            refine j_region ?_
            refine jg_adr _ rfl _ rfl rfl (op_eql (.base rfl) (.base rfl)) ?_
            refine jg_adr _ rfl _ rfl rfl (op_assign (.base rfl)) ?_
            refine jg_nil ?_
            refine jn_keep [1, 2, 20] [2] (.cons rfl (.cons rfl (.cons rfl .nil))) (.cons rfl .nil) ?_
            refine jn_seq ?_
            refine j_cond rfl (fun h12 => ?_) (fun h12 => ?_)
            · try simp at h12
              refine j_seq ?_
              refine j_region ?_
              refine jg_adr _ rfl _ rfl rfl (op_assign (.base rfl)) ?_
              refine jg_adr _ rfl _ rfl rfl (op_assign (.base rfl)) ?_
              refine jg_nil ?_
              refine jn_keep [4, 5] [] (.cons rfl (.cons rfl .nil)) .nil ?_
              refine jn_seq (j_ret (jr_blk (jr_seq ?_)))
              exact jr_fin2 Try.results32 (res_tmp rfl) (res_tmp rfl) ⟨rfl, rfl⟩ (sv22_eq (by subst_vars; first | rfl | (simp [bounds]; done) | (simp [bounds, *]; done) | (unfold bounds; (repeat' split) <;> first | rfl | omega | (simp_all; done) | (simp_all; omega))))
            · try simp at h12
              refine j_skip (jn_blk (jn_seq (j_seq ?_)))
              obtain ⟨v6, v7, v8⟩ := vt6 h1 h4 h6 h8 h10 h12
              have hm := (hf.2 (en[t.2.toNat]'(by omega)) (List.getElem_mem _)).2.1
              refine j_draw mo (by kernel_rfl) (
                AS.cons _ _ rfl (ga_adr rfl rfl rfl (op_move (.base rfl))) (
                  AS.cons _ _ rfl (ga_adr rfl rfl rfl (op_ofield fld23_1 (.base rfl))) (
                  AS.cons _ _ rfl (ga_adr rfl rfl rfl (op_oload ty3 (.base rfl) rfl rfl ln23_1)) (
                  AS.cons _ _ rfl (ga_adr rfl rfl rfl (op_index Try.underlying27 ty91 (.base rfl) (.base rfl) (Int.toNat_of_nonneg v7).symm (List.getElem?_eq_getElem (by first | omega | (simp; done) | (simp; omega) | (simp at hg; omega))))) (
                  AS.cons _ _ rfl (ga_adr rfl rfl rfl (op_field fld91_1 ln91_1 (.base rfl))) (
                  AS.cons _ _ rfl (ga_adr rfl rfl rfl (op_load ty89 (.base rfl))) (
                  AS.cons _ _ rfl (ga_adr rfl rfl rfl (op_len Try.underlying89 (.base rfl))) (
                  AS.cons _ _ rfl (ga_adr rfl rfl rfl (op_sub (.base rfl) (.base rfl) (w64 (by omega)))) (
                  AS.cons _ _ rfl (ga_adr rfl rfl rfl (op_assign (.base rfl))) (
                  AS.cons _ _ rfl (ga_adr rfl rfl rfl (op_assign (.base rfl))) (
                  AS.nil))))))))))) ?_
              refine jn_keep [4, 5] [] (.cons rfl (.cons rfl .nil)) .nil ?_
              refine jn_seq (j_ret ?_)
              exact jr_fin2 Try.results32 (res_tmp rfl) (res_tmp rfl) ⟨rfl, rfl⟩ (sv22_eq (by unfold bounds; rw [if_neg (by simp [h1]), if_neg h4, if_neg h6, if_neg h8, if_neg h10, if_neg h12]; unfold memb; rw [List.getElem?_eq_getElem (by omega)]; rfl))

theorem rvalidType_ok (t : TType) (en : List TEnum) : Ct Try.prog 37 [.tv rType t, .tv (rSlice rEnum) en] (.raw (.bool (validType t en))) := by
  refine ct_intro Try.func37 rfl rfl Try.ntmps37 rfl rfl ?_
  intro w0 ok0
  refine j_len 1 rfl (fun hl0 => ?_)
  refine j_seq ?_
  refine j_region ?_
  refine jg_os _ rfl (op_box (.tv (.base rfl)) rfl rfl rfl) ?_
  refine jg_adr _ rfl _ rfl rfl (op_assign (.base rfl)) ?_
  refine jg_nil ?_
  refine jn_keep [1, 2] [2] (.cons rfl (.cons rfl .nil)) (.cons rfl .nil) ?_
  refine jn_seq (j_seq (j_seq ?_))
  refine j_region ?_
  refine jg_adr _ rfl _ rfl rfl (op_ofield fld23_0 (.base rfl)) ?_
  refine jg_adr _ rfl _ rfl rfl (op_oload ty3 (.base rfl) rfl rfl ln23_0) ?_
  refine jg_adr _ rfl _ rfl rfl (op_eql (.base rfl) (.base rfl)) ?_
  refine jg_nil ?_
  refine jn_keep [1, 2, 7] [2] (.cons rfl (.cons rfl (.cons rfl .nil))) (.cons rfl .nil) ?_
  refine jn_seq ?_
  refine j_cond rfl (fun h1 => ?_) (fun h1 => ?_)
  · try simp at h1
    refine j_seq ?_
    refine j_region ?_
    refine jg_adr _ rfl _ rfl rfl (op_ofield fld23_1 (.base rfl)) ?_
    refine jg_adr _ rfl _ rfl rfl (op_oload ty3 (.base rfl) rfl rfl ln23_1) ?_
    refine jg_adr _ rfl _ rfl rfl (op_geq (.base rfl) (.base rfl)) ?_
    refine jg_adr _ rfl _ rfl rfl (op_move (.base rfl)) ?_
    refine jg_gd _ _ _ _ _ _ rfl rfl rfl rfl rfl (fun hg => op_ofield fld23_1 (.base rfl)) ?_
    refine jg_gd _ _ _ _ _ _ rfl rfl rfl rfl rfl (fun hg => op_oload ty3 (.gd rfl hg) rfl rfl ln23_1) ?_
    refine jg_gd _ _ _ _ _ _ rfl rfl rfl rfl rfl (fun hg => op_move (.base rfl)) ?_
    refine jg_gd _ _ _ _ _ _ rfl rfl rfl rfl rfl (fun hg => op_len Try.underlying27 (.gd rfl hg)) ?_
    refine jg_gd _ _ _ _ _ _ rfl rfl rfl rfl rfl (fun hg => op_lss (.gd rfl hg) (.gd rfl hg)) ?_
    refine jg_adr _ rfl _ rfl rfl (op_pick_and (.base rfl) (.base rfl) rfl (by intro h; first | (rw [h]; rfl) | (rw [hg, h]; rfl) | (rw [h, hg]; rfl) | simp_all)) ?_
    refine jg_adr _ rfl _ rfl rfl (op_assign (.base rfl)) ?_
    refine jg_nil ?_
    refine jn_keep [4] [] (.cons rfl .nil) .nil ?_
    refine jn_seq (j_ret (jr_seq ?_))
    exact jr_fin1 Try.results37 (res_tmp rfl) rfl (rb (by subst_vars; first | rfl | (simp [validType]; done) | (simp [validType, *]; done) | (rw [Bool.eq_iff_iff]; simp [validType, *]; omega) | (rw [Bool.eq_iff_iff]; simp [validType]; omega) | (unfold validType; simp; omega) | (unfold validType; (repeat' split) <;> first | rfl | omega | (rw [Bool.eq_iff_iff]; simp; omega) | (simp_all; done) | (simp_all; omega) | (exfalso; omega))))
  · try simp at h1
    refine j_skip (jn_seq (j_seq ?_))
    refine j_region ?_
    refine jg_adr _ rfl _ rfl rfl (op_ofield fld23_0 (.base rfl)) ?_
    refine jg_adr _ rfl _ rfl rfl (op_oload ty3 (.base rfl) rfl rfl ln23_0) ?_
    refine jg_adr _ rfl _ rfl rfl (op_geq (.base rfl) (.base rfl)) ?_
    refine jg_adr _ rfl _ rfl rfl (op_move (.base rfl)) ?_
    refine jg_gd _ _ _ _ _ _ rfl rfl rfl rfl rfl (fun hg => op_ofield fld23_0 (.base rfl)) ?_
    refine jg_gd _ _ _ _ _ _ rfl rfl rfl rfl rfl (fun hg => op_oload ty3 (.gd rfl hg) rfl rfl ln23_0) ?_
    refine jg_gd _ _ _ _ _ _ rfl rfl rfl rfl rfl (fun hg => op_leq (.gd rfl hg) (.base rfl)) ?_
    refine jg_adr _ rfl _ rfl rfl (op_pick_and (.base rfl) (.base rfl) rfl (by intro h; first | (rw [h]; rfl) | (rw [hg, h]; rfl) | (rw [h, hg]; rfl) | simp_all)) ?_
    refine jg_adr _ rfl _ rfl rfl (op_move (.base rfl)) ?_
    refine jg_gd _ _ _ _ _ _ rfl rfl rfl rfl rfl (fun hg => op_ofield fld23_1 (.base rfl)) ?_
    refine jg_gd _ _ _ _ _ _ rfl rfl rfl rfl rfl (fun hg => op_oload ty3 (.gd rfl hg) rfl rfl ln23_1) ?_
    refine jg_gd _ _ _ _ _ _ rfl rfl rfl rfl rfl (fun hg => op_eql (.gd rfl hg) (.base rfl)) ?_
    refine jg_adr _ rfl _ rfl rfl (op_pick_and (.base rfl) (.base rfl) rfl (by intro h; first | (rw [h]; rfl) | (rw [hg, h]; rfl) | (rw [h, hg]; rfl) | simp_all)) ?_
    refine jg_adr _ rfl _ rfl rfl (op_assign (.base rfl)) ?_
    refine jg_nil ?_
    refine jn_keep [4] [] (.cons rfl .nil) .nil ?_
    refine jn_seq (j_ret ?_)
    exact jr_fin1 Try.results37 (res_tmp rfl) rfl (rb (by subst_vars; first | rfl | (simp [validType]; done) | (simp [validType, *]; done) | (rw [Bool.eq_iff_iff]; simp [validType, *]; omega) | (rw [Bool.eq_iff_iff]; simp [validType]; omega) | (unfold validType; simp; omega) | (unfold validType; (repeat' split) <;> first | rfl | omega | (rw [Bool.eq_iff_iff]; simp; omega) | (simp_all; done) | (simp_all; omega) | (exfalso; omega))))

theorem rbounds_ok (t : TType) (en : List TEnum) : Ct Try.prog 82 [.tv rType t, .tv (rSlice rEnum) en] (sv22 (bounds t en)) := by
  refine ct_intro Try.func82 rfl rfl Try.ntmps82 rfl rfl ?_
  intro w0 ok0
  refine j_fits 1 fitsEn rfl (fun hf => ?_)
  have hl0 := hf.1
  refine j_seq ?_
  refine j_region ?_
  refine jg_os _ rfl (op_box (.tv (.base rfl)) rfl rfl rfl) ?_
  refine jg_adr _ rfl _ rfl rfl (op_assign (.base rfl)) ?_
  refine jg_adr _ rfl _ rfl rfl (op_assign (.base rfl)) ?_
  refine jg_nil ?_
  refine jn_keep [1, 2] [2] (.cons rfl (.cons rfl .nil)) (.cons rfl .nil) ?_
  refine jn_seq (j_seq (j_seq ?_))
  refine j_region ?_
  refine jg_adr _ rfl _ rfl rfl (op_oload ty23 (.base rfl) rfl rfl (Lens.id _)) ?_
  refine jg_adr _ rfl _ rfl rfl (op_move (.base rfl)) ?_
  refine jg_adr _ rfl _ rfl rfl (op_call (rvalidType_ok _ _) (.cons (.base rfl) (.cons (.base rfl) .nil)) rfl rfl) ?_
  refine jg_adr _ rfl _ rfl rfl (op_not (.base rfl)) ?_
  refine jg_nil ?_
  refine jn_keep [1, 2, 9] [2] (.cons rfl (.cons rfl (.cons rfl .nil))) (.cons rfl .nil) ?_
  refine jn_seq ?_
  refine j_cond rfl (fun h1 => ?_) (fun h1 => ?_)
  · try simp at h1
    refine j_seq ?_
    refine j_region ?_
    refine jg_adr _ rfl _ rfl rfl (op_assign (.base rfl)) ?_
    refine jg_adr _ rfl _ rfl rfl (op_assign (.base rfl)) ?_
    refine jg_nil ?_
    refine jn_keep [4, 5] [] (.cons rfl (.cons rfl .nil)) .nil ?_
    refine jn_seq (j_ret (jr_seq ?_))
    exact jr_fin2 Try.results82 (res_tmp rfl) (res_tmp rfl) ⟨rfl, rfl⟩ (sv22_eq (by subst_vars; first | rfl | (simp [bounds]; done) | (simp [bounds, *]; done) | (unfold bounds; (repeat' split) <;> first | rfl | omega | (simp_all; done) | (simp_all; omega))))
  · try simp at h1
    refine j_skip (jn_seq (j_seq (j_seq ?_)))
    refine j_region ?_
    refine jg_adr _ rfl _ rfl rfl (op_ofield fld23_0 (.base rfl)) ?_
    refine jg_adr _ rfl _ rfl rfl (op_oload ty3 (.base rfl) rfl rfl ln23_0) ?_
    refine jg_nil ?_
    refine jn_keep [1, 2, 11] [2] (.cons rfl (.cons rfl (.cons rfl .nil))) (.cons rfl .nil) ?_
    refine jn_seq (j_block (j_seq ?_))
    refine j_region ?_
    refine jg_adr _ rfl _ rfl rfl (op_eql (.base rfl) (.base rfl)) ?_
    refine jg_adr _ rfl _ rfl rfl (op_assign (.base rfl)) ?_
    refine jg_nil ?_
    refine jn_keep [1, 2, 11, 12] [2] (.cons rfl (.cons rfl (.cons rfl (.cons rfl .nil)))) (.cons rfl .nil) ?_
    refine jn_seq ?_
    refine j_cond rfl (fun h4 => ?_) (fun h4 => ?_)
    · try simp at h4
      refine j_seq ?_
      refine j_region ?_
      refine jg_adr _ rfl _ rfl rfl (op_assign (.base rfl)) ?_
      refine jg_adr _ rfl _ rfl rfl (op_assign (.base rfl)) ?_
      refine jg_nil ?_
      refine jn_keep [4, 5] [] (.cons rfl (.cons rfl .nil)) .nil ?_
      refine jn_seq (j_ret (jr_blk (jr_seq ?_)))
      exact jr_fin2 Try.results82 (res_tmp rfl) (res_tmp rfl) ⟨rfl, rfl⟩ (sv22_eq (by subst_vars; first | rfl | (simp [bounds]; done) | (simp [bounds, *]; done) | (unfold bounds; (repeat' split) <;> first | rfl | omega | (simp_all; done) | (simp_all; omega))))
    · try simp at h4
      refine j_seq ?_
      refine j_region ?_
      refine jg_adr _ rfl _ rfl rfl (op_eql (.base rfl) (.base rfl)) ?_
      refine jg_adr _ rfl _ rfl rfl (op_assign (.base rfl)) ?_
      refine jg_nil ?_
      refine jn_keep [1, 2, 11, 14] [2] (.cons rfl (.cons rfl (.cons rfl (.cons rfl .nil)))) (.cons rfl .nil) ?_
      refine jn_seq ?_
      refine j_cond rfl (fun h6 => ?_) (fun h6 => ?_)
      · try simp at h6
        refine j_seq ?_
        refine j_region ?_
        refine jg_adr _ rfl _ rfl rfl (op_assign (.base rfl)) ?_
        refine jg_adr _ rfl _ rfl rfl (op_assign (.base rfl)) ?_
        refine jg_nil ?_
        refine jn_keep [4, 5] [] (.cons rfl (.cons rfl .nil)) .nil ?_
        refine jn_seq (j_ret (jr_blk (jr_seq ?_)))
        exact jr_fin2 Try.results82 (res_tmp rfl) (res_tmp rfl) ⟨rfl, rfl⟩ (sv22_eq (by subst_vars; first | rfl | (simp [bounds]; done) | (simp [bounds, *]; done) | (unfold bounds; (repeat' split) <;> first | rfl | omega | (simp_all; done) | (simp_all; omega))))
      · try simp at h6
        refine j_seq ?_
        refine j_region ?_
        refine jg_adr _ rfl _ rfl rfl (op_eql (.base rfl) (.base rfl)) ?_
        refine jg_adr _ rfl _ rfl rfl (op_assign (.base rfl)) ?_
        refine jg_nil ?_
        refine jn_keep [1, 2, 11, 16] [2] (.cons rfl (.cons rfl (.cons rfl (.cons rfl .nil)))) (.cons rfl .nil) ?_
        refine jn_seq ?_
        refine j_cond rfl (fun h8 => ?_) (fun h8 => ?_)
        · try simp at h8
          refine j_seq ?_
          refine j_region ?_
          refine jg_adr _ rfl _ rfl rfl (op_assign (.base rfl)) ?_
          refine jg_adr _ rfl _ rfl rfl (op_assign (.base rfl)) ?_
          refine jg_nil ?_
          refine jn_keep [4, 5] [] (.cons rfl (.cons rfl .nil)) .nil ?_
          refine jn_seq (j_ret (jr_blk (jr_seq ?_)))
          exact jr_fin2 Try.results82 (res_tmp rfl) (res_tmp rfl) ⟨rfl, rfl⟩ (sv22_eq (by subst_vars; first | rfl | (simp [bounds]; done) | (simp [bounds, *]; done) | (unfold bounds; (repeat' split) <;> first | rfl | omega | (simp_all; done) | (simp_all; omega))))
        · try simp at h8
          refine j_seq ?_
          refine j_region ?_
          refine jg_adr _ rfl _ rfl rfl (op_eql (.base rfl) (.base rfl)) ?_
          refine jg_adr _ rfl _ rfl rfl (op_assign (.base rfl)) ?_
          refine jg_nil ?_
          refine jn_keep [1, 2, 11, 18] [2] (.cons rfl (.cons rfl (.cons rfl (.cons rfl .nil)))) (.cons rfl .nil) ?_
          refine jn_seq ?_
          refine j_cond rfl (fun h10 => ?_) (fun h10 => ?_)
          · try simp at h10
            refine j_seq ?_
            refine j_region ?_
            refine jg_adr _ rfl _ rfl rfl (op_assign (.base rfl)) ?_
            refine jg_adr _ rfl _ rfl rfl (op_assign (.base rfl)) ?_
            refine jg_nil ?_
            refine jn_keep [4, 5] [] (.cons rfl (.cons rfl .nil)) .nil ?_
            refine jn_seq (j_ret (jr_blk (jr_seq ?_)))
            exact jr_fin2 Try.results82 (res_tmp rfl) (res_tmp rfl) ⟨rfl, rfl⟩ (sv22_eq (by subst_vars; first | rfl | (simp [bounds]; done) | (simp [bounds, *]; done) | (unfold bounds; (repeat' split) <;> first | rfl | omega | (simp_all; done) | (simp_all; omega))))
          · try simp at h10
            refine j_seq ?_
            refine j_region ?_
            refine jg_adr _ rfl _ rfl rfl (op_eql (.base rfl) (.base rfl)) ?_
            refine jg_adr _ rfl _ rfl rfl (op_assign (.base rfl)) ?_
            refine jg_nil ?_
            refine jn_keep [1, 2, 20] [2] (.cons rfl (.cons rfl (.cons rfl .nil))) (.cons rfl .nil) ?_
            refine jn_seq ?_
            refine j_cond rfl (fun h12 => ?_) (fun h12 => ?_)
            · try simp at h12
              refine j_seq ?_
              refine j_region ?_
              refine jg_adr _ rfl _ rfl rfl (op_assign (.base rfl)) ?_
              refine jg_adr _ rfl _ rfl rfl (op_assign (.base rfl)) ?_
              refine jg_nil ?_
              refine jn_keep [4, 5] [] (.cons rfl (.cons rfl .nil)) .nil ?_
              refine jn_seq (j_ret (jr_blk (jr_seq ?_)))
              exact jr_fin2 Try.results82 (res_tmp rfl) (res_tmp rfl) ⟨rfl, rfl⟩ (sv22_eq (by subst_vars; first | rfl | (simp [bounds]; done) | (simp [bounds, *]; done) | (unfold bounds; (repeat' split) <;> first | rfl | omega | (simp_all; done) | (simp_all; omega))))
            · try simp at h12
              refine j_skip (jn_blk (jn_seq (j_seq ?_)))
              obtain ⟨v6, v7, v8⟩ := vt6 h1 h4 h6 h8 h10 h12
              have hm := (hf.2 (en[t.2.toNat]'(by omega)) (List.getElem_mem _)).2.1
              refine j_draw mo (by kernel_rfl) (
                AS.cons _ _ rfl (ga_adr rfl rfl rfl (op_move (.base rfl))) (
                  AS.cons _ _ rfl (ga_adr rfl rfl rfl (op_ofield fld23_1 (.base rfl))) (
                  AS.cons _ _ rfl (ga_adr rfl rfl rfl (op_oload ty3 (.base rfl) rfl rfl ln23_1)) (
                  AS.cons _ _ rfl (ga_adr rfl rfl rfl (op_index Try.underlying27 ty91 (.base rfl) (.base rfl) (Int.toNat_of_nonneg v7).symm (List.getElem?_eq_getElem (by first | omega | (simp; done) | (simp; omega) | (simp at hg; omega))))) (
                  AS.cons _ _ rfl (ga_adr rfl rfl rfl (op_field fld91_1 ln91_1 (.base rfl))) (
                  AS.cons _ _ rfl (ga_adr rfl rfl rfl (op_load ty89 (.base rfl))) (
                  AS.cons _ _ rfl (ga_adr rfl rfl rfl (op_len Try.underlying89 (.base rfl))) (
                  AS.cons _ _ rfl (ga_adr rfl rfl rfl (op_sub (.base rfl) (.base rfl) (w64 (by omega)))) (
                  AS.cons _ _ rfl (ga_adr rfl rfl rfl (op_assign (.base rfl))) (
                  AS.cons _ _ rfl (ga_adr rfl rfl rfl (op_assign (.base rfl))) (
                  AS.nil))))))))))) ?_
              refine jn_keep [4, 5] [] (.cons rfl (.cons rfl .nil)) .nil ?_
              refine jn_seq (j_ret ?_)
              exact jr_fin2 Try.results82 (res_tmp rfl) (res_tmp rfl) ⟨rfl, rfl⟩ (sv22_eq (by unfold bounds; rw [if_neg (by simp [h1]), if_neg h4, if_neg h6, if_neg h8, if_neg h10, if_neg h12]; unfold memb; rw [List.getElem?_eq_getElem (by omega)]; rfl))

theorem rin_ok (n : Int) (t : TType) (en : List TEnum) : Ct Try.prog 68 [.raw (.int .i64 n), .tv rType t, .tv (rSlice rEnum) en] (.raw (.bool (inB t en n))) := by
  refine ct_intro Try.func68 rfl rfl Try.ntmps68 rfl rfl ?_
  intro w0 ok0
  refine j_seq ?_
  refine j_region ?_
  refine jg_os _ rfl (op_box (.tv (.base rfl)) rfl rfl rfl) ?_
  refine jg_adr _ rfl _ rfl rfl (op_assign (.base rfl)) ?_
  refine jg_nil ?_
  refine jn_keep [0, 2, 4] [4] (.cons rfl (.cons rfl (.cons rfl .nil))) (.cons rfl .nil) ?_
  refine jn_seq (j_seq ?_)
  refine j_region ?_
  refine jg_adr _ rfl _ rfl rfl (op_oload ty23 (.base rfl) rfl rfl (Lens.id _)) ?_
  refine jg_adr _ rfl _ rfl rfl (op_move (.base rfl)) ?_
  refine jg_adr _ rfl _ rfl rfl (op_call (rbounds_ok _ _) (.cons (.base rfl) (.cons (.base rfl) .nil)) rfl rfl) ?_
  refine jg_adr _ rfl _ rfl rfl (op_move (.base rfl)) ?_
  refine jg_adr _ rfl _ rfl rfl (op_ext20 (.base rfl)) ?_
  refine jg_adr _ rfl _ rfl rfl (op_ext21 (.base rfl)) ?_
  refine jg_adr _ rfl _ rfl rfl (op_assign (.base rfl)) ?_
  refine jg_adr _ rfl _ rfl rfl (op_assign (.base rfl)) ?_
  refine jg_nil ?_
  refine jn_keep [0, 7, 8] [] (.cons rfl (.cons rfl (.cons rfl .nil))) .nil ?_
  refine jn_seq (j_seq ?_)
  refine j_region ?_
  refine jg_adr _ rfl _ rfl rfl (op_move (.base rfl)) ?_
  refine jg_adr _ rfl _ rfl rfl (op_move (.base rfl)) ?_
  refine jg_adr _ rfl _ rfl rfl (op_leq (.base rfl) (.base rfl)) ?_
  refine jg_adr _ rfl _ rfl rfl (op_move (.base rfl)) ?_
  refine jg_gd _ _ _ _ _ _ rfl rfl rfl rfl rfl (fun hg => op_move (.base rfl)) ?_
  refine jg_gd _ _ _ _ _ _ rfl rfl rfl rfl rfl (fun hg => op_move (.base rfl)) ?_
  refine jg_gd _ _ _ _ _ _ rfl rfl rfl rfl rfl (fun hg => op_leq (.gd rfl hg) (.gd rfl hg)) ?_
  refine jg_adr _ rfl _ rfl rfl (op_pick_and (.base rfl) (.base rfl) rfl (by intro h; first | (rw [h]; rfl) | (rw [hg, h]; rfl) | (rw [h, hg]; rfl) | simp_all)) ?_
  refine jg_adr _ rfl _ rfl rfl (op_assign (.base rfl)) ?_
  refine jg_nil ?_
  refine jn_keep [6] [] (.cons rfl .nil) .nil ?_
  refine jn_seq (j_ret ?_)
  exact jr_fin1 Try.results68 (res_tmp rfl) rfl (rfl)

theorem wrong_ok (x : TRow) (t : TTable) (en : List TEnum) (hx : KeyI x) : Ct Try.prog 38 [.tv rRow x, .tv rTable t, .tv (rSlice rEnum) en] (.raw (.bool (badR t en x))) := by
  refine ct_intro Try.func38 rfl rfl Try.ntmps38 rfl rfl ?_
  intro w0 ok0
  unfold KeyI at hx
  refine j_seq ?_
  refine j_region ?_
  refine jg_os _ rfl (op_box (.tv (.base rfl)) rfl rfl rfl) ?_
  refine jg_os _ rfl (op_box (.tv (.base rfl)) rfl rfl rfl) ?_
  refine jg_adr _ rfl _ rfl rfl (op_assign (.base rfl)) ?_
  refine jg_nil ?_
  refine jn_keep [2, 3, 4] [3, 4] (.cons rfl (.cons rfl (.cons rfl .nil))) (.cons rfl (.cons rfl .nil)) ?_
  refine jn_seq (j_seq (j_seq ?_))
  refine j_region ?_
  refine jg_adr _ rfl _ rfl rfl (op_ofield fld50_0 (.base rfl)) ?_
  refine jg_adr _ rfl _ rfl rfl (op_oload ty48 (.base rfl) rfl rfl ln50_0) ?_
  refine jg_adr _ rfl _ rfl rfl (op_call (drvalid_ok _) (.cons (.base rfl) .nil) rfl rfl) ?_
  refine jg_adr _ rfl _ rfl rfl (op_not (.base rfl)) ?_
  refine jg_adr _ rfl _ rfl rfl (op_move (.base rfl)) ?_
  refine jg_gd _ _ _ _ _ _ rfl rfl rfl rfl rfl (fun hg => op_ofield fld50_0 (.base rfl)) ?_
  refine jg_gd _ _ _ _ _ _ rfl rfl rfl rfl rfl (fun hg => op_ofield fld48_0 (.gd rfl hg)) ?_
  refine jg_gd _ _ _ _ _ _ rfl rfl rfl rfl rfl (fun hg => op_oload ty3 (.gd rfl hg) rfl rfl (Lens.comp ln50_0 ln48_0)) ?_
  refine jg_gd _ _ _ _ _ _ rfl rfl rfl rfl rfl (fun hg => op_ofield fld50_0 (.base rfl)) ?_
  refine jg_gd _ _ _ _ _ _ rfl rfl rfl rfl rfl (fun hg => op_ofield fld48_1 (.gd rfl hg)) ?_
  refine jg_gd _ _ _ _ _ _ rfl rfl rfl rfl rfl (fun hg => op_oload ty3 (.gd rfl hg) rfl rfl (Lens.comp ln50_0 ln48_1)) ?_
  refine jg_gd _ _ _ _ _ _ rfl rfl rfl rfl rfl (fun hg => op_eql (.gd rfl hg) (.gd rfl hg)) ?_
  refine jg_adr _ rfl _ rfl rfl (op_pick_or (.base rfl) (.base rfl) rfl (by intro h; first | (rw [h]; rfl) | (rw [hg, h]; rfl) | (rw [h, hg]; rfl) | simp_all)) ?_
  refine jg_adr _ rfl _ rfl rfl (op_move (.base rfl)) ?_
  refine jg_gd _ _ _ _ _ _ rfl rfl rfl rfl rfl (fun hg => op_ofield fld50_1 (.base rfl)) ?_
  refine jg_gd _ _ _ _ _ _ rfl rfl rfl rfl rfl (fun hg => op_oload ty3 (.gd rfl hg) rfl rfl ln50_1) ?_
  refine jg_gd _ _ _ _ _ _ rfl rfl rfl rfl rfl (fun hg => op_ofield fld50_2 (.base rfl)) ?_
  refine jg_gd _ _ _ _ _ _ rfl rfl rfl rfl rfl (fun hg => op_oload ty3 (.gd rfl hg) rfl rfl ln50_2) ?_
  refine jg_gd _ _ _ _ _ _ rfl rfl rfl rfl rfl (fun hg => op_geq (.gd rfl hg) (.gd rfl hg)) ?_
  refine jg_adr _ rfl _ rfl rfl (op_pick_or (.base rfl) (.base rfl) rfl (by intro h; first | (rw [h]; rfl) | (rw [hg, h]; rfl) | (rw [h, hg]; rfl) | simp_all)) ?_
  refine jg_nil ?_
  refine jn_keep [2, 3, 4, 26] [3, 4] (.cons rfl (.cons rfl (.cons rfl (.cons rfl .nil)))) (.cons rfl (.cons rfl .nil)) ?_
  refine jn_seq ?_
  refine j_cond rfl (fun h1 => ?_) (fun h1 => ?_)
  · have h1 : badA x = true := h1
    refine j_seq ?_
    refine j_region ?_
    refine jg_adr _ rfl _ rfl rfl (op_assign (.base rfl)) ?_
    refine jg_nil ?_
    refine jn_keep [6] [] (.cons rfl .nil) .nil ?_
    refine jn_seq (j_ret (jr_seq ?_))
    exact jr_fin1 Try.results38 (res_tmp rfl) rfl (rb (by unfold badR; rw [h1]; rfl))
  · have h1 : badA x = false := h1
    have k1 : x.2.1 < x.2.2.1 := by simp [badA] at h1; omega
    refine j_skip (jn_seq (j_seq ?_))
    refine j_region ?_
    refine jg_adr _ rfl _ rfl rfl (op_ofield fld50_1 (.base rfl)) ?_
    refine jg_adr _ rfl _ rfl rfl (op_oload ty3 (.base rfl) rfl rfl ln50_1) ?_
    refine jg_adr _ rfl _ rfl rfl (op_ofield fld26_1 (.base rfl)) ?_
    refine jg_adr _ rfl _ rfl rfl (op_oload ty23 (.base rfl) rfl rfl ln26_1) ?_
    refine jg_adr _ rfl _ rfl rfl (op_move (.base rfl)) ?_
    refine jg_adr _ rfl _ rfl rfl (op_call (rin_ok _ _ _) (.cons (.base rfl) (.cons (.base rfl) (.cons (.base rfl) .nil))) rfl rfl) ?_
    refine jg_adr _ rfl _ rfl rfl (op_not (.base rfl)) ?_
    refine jg_adr _ rfl _ rfl rfl (op_move (.base rfl)) ?_
    refine jg_gd _ _ _ _ _ _ rfl rfl rfl rfl rfl (fun hg => op_ofield fld50_2 (.base rfl)) ?_
    refine jg_gd _ _ _ _ _ _ rfl rfl rfl rfl rfl (fun hg => op_oload ty3 (.gd rfl hg) rfl rfl ln50_2) ?_
    refine jg_gd _ _ _ _ _ _ rfl rfl rfl rfl rfl (fun hg => op_sub (.gd rfl hg) (.base rfl) (w64 (by omega))) ?_
    refine jg_gd _ _ _ _ _ _ rfl rfl rfl rfl rfl (fun hg => op_ofield fld26_1 (.base rfl)) ?_
    refine jg_gd _ _ _ _ _ _ rfl rfl rfl rfl rfl (fun hg => op_oload ty23 (.gd rfl hg) rfl rfl ln26_1) ?_
    refine jg_gd _ _ _ _ _ _ rfl rfl rfl rfl rfl (fun hg => op_move (.base rfl)) ?_
    refine jg_gd _ _ _ _ _ _ rfl rfl rfl rfl rfl (fun hg => op_call (rin_ok _ _ _) (.cons (.gd rfl hg) (.cons (.gd rfl hg) (.cons (.gd rfl hg) .nil))) rfl rfl) ?_
    refine jg_gd _ _ _ _ _ _ rfl rfl rfl rfl rfl (fun hg => op_not (.gd rfl hg)) ?_
    refine jg_adr _ rfl _ rfl rfl (op_pick_or (.base rfl) (.base rfl) rfl (by intro h; first | (rw [h]; rfl) | (rw [hg, h]; rfl) | (rw [h, hg]; rfl) | simp_all)) ?_
    refine jg_adr _ rfl _ rfl rfl (op_move (.base rfl)) ?_
    refine jg_gd _ _ _ _ _ _ rfl rfl rfl rfl rfl (fun hg => op_ofield fld50_3 (.base rfl)) ?_
    refine jg_gd _ _ _ _ _ _ rfl rfl rfl rfl rfl (fun hg => op_oload ty3 (.gd rfl hg) rfl rfl ln50_3) ?_
    refine jg_gd _ _ _ _ _ _ rfl rfl rfl rfl rfl (fun hg => op_ofield fld26_2 (.base rfl)) ?_
    refine jg_gd _ _ _ _ _ _ rfl rfl rfl rfl rfl (fun hg => op_oload ty23 (.gd rfl hg) rfl rfl ln26_2) ?_
    refine jg_gd _ _ _ _ _ _ rfl rfl rfl rfl rfl (fun hg => op_move (.base rfl)) ?_
    refine jg_gd _ _ _ _ _ _ rfl rfl rfl rfl rfl (fun hg => op_call (rin_ok _ _ _) (.cons (.gd rfl hg) (.cons (.gd rfl hg) (.cons (.gd rfl hg) .nil))) rfl rfl) ?_
    refine jg_gd _ _ _ _ _ _ rfl rfl rfl rfl rfl (fun hg => op_not (.gd rfl hg)) ?_
    refine jg_adr _ rfl _ rfl rfl (op_pick_or (.base rfl) (.base rfl) rfl (by intro h; first | (rw [h]; rfl) | (rw [hg, h]; rfl) | (rw [h, hg]; rfl) | simp_all)) ?_
    refine jg_adr _ rfl _ rfl rfl (op_assign (.base rfl)) ?_
    refine jg_nil ?_
    refine jn_keep [6] [] (.cons rfl .nil) .nil ?_
    refine jn_seq (j_ret ?_)
    exact jr_fin1 Try.results38 (res_tmp rfl) rfl (rb (by unfold badR; rw [h1]; rfl))

theorem validate_ok (t : TTable) (en : List TEnum) (hK : ∀ x ∈ t.2.2.2, KeyI x) : Ct Try.prog 13 [.tv rTable t, .tv (rSlice rEnum) en] (sv22 (valR t en)) := by
  refine ct_intro Try.func13 rfl rfl Try.ntmps13 rfl rfl ?_
  intro w0 ok0
  refine j_seq ?_
  refine j_region ?_
  refine jg_os _ rfl (op_box (.tv (.base rfl)) rfl rfl rfl) ?_
  refine jg_adr _ rfl _ rfl rfl (op_assign (.base rfl)) ?_
  refine jg_adr _ rfl _ rfl rfl (op_assign (.base rfl)) ?_
  refine jg_nil ?_
  refine jn_keep [1, 2] [2] (.cons rfl (.cons rfl .nil)) (.cons rfl .nil) ?_
  refine jn_seq (j_seq (j_seq ?_))
  refine j_region ?_
  refine jg_adr _ rfl _ rfl rfl (op_ofield fld26_3 (.base rfl)) ?_
  refine jg_adr _ rfl _ rfl rfl (op_oload ty24 (.base rfl) rfl rfl ln26_3) ?_
  refine jg_adr _ rfl _ rfl rfl (op_len Try.underlying24 (.base rfl)) ?_
  refine jg_adr _ rfl _ rfl rfl (op_gtr (.base rfl) (.base rfl)) ?_
  refine jg_nil ?_
  refine jn_keep [1, 2, 17] [2] (.cons rfl (.cons rfl (.cons rfl .nil))) (.cons rfl .nil) ?_
  refine jn_seq ?_
  refine j_cond rfl (fun h1 => ?_) (fun h1 => ?_)
  · simp at h1
    refine j_seq ?_
    refine j_region ?_
    refine jg_adr _ rfl _ rfl rfl (op_assign (.base rfl)) ?_
    refine jg_adr _ rfl _ rfl rfl (op_assign (.base rfl)) ?_
    refine jg_nil ?_
    refine jn_keep [4, 5] [] (.cons rfl (.cons rfl .nil)) .nil ?_
    refine jn_seq (j_ret (jr_seq ?_))
    exact jr_fin2 Try.results13 (res_tmp rfl) (res_tmp rfl) ⟨rfl, rfl⟩ (sv22_eq (by unfold valR; rw [if_pos (by omega)]))
  · simp at h1
    refine j_skip (jn_seq (j_seq (j_seq ?_)))
    refine j_region ?_
    refine jg_adr _ rfl _ rfl rfl (op_ofield fld26_1 (.base rfl)) ?_
    refine jg_adr _ rfl _ rfl rfl (op_oload ty23 (.base rfl) rfl rfl ln26_1) ?_
    refine jg_adr _ rfl _ rfl rfl (op_move (.base rfl)) ?_
    refine jg_adr _ rfl _ rfl rfl (op_call (validType_ok _ _) (.cons (.base rfl) (.cons (.base rfl) .nil)) rfl rfl) ?_
    refine jg_adr _ rfl _ rfl rfl (op_not (.base rfl)) ?_
    refine jg_adr _ rfl _ rfl rfl (op_move (.base rfl)) ?_
    refine jg_gd _ _ _ _ _ _ rfl rfl rfl rfl rfl (fun hg => op_ofield fld26_2 (.base rfl)) ?_
    refine jg_gd _ _ _ _ _ _ rfl rfl rfl rfl rfl (fun hg => op_oload ty23 (.gd rfl hg) rfl rfl ln26_2) ?_
    refine jg_gd _ _ _ _ _ _ rfl rfl rfl rfl rfl (fun hg => op_move (.base rfl)) ?_
    refine jg_gd _ _ _ _ _ _ rfl rfl rfl rfl rfl (fun hg => op_call (validType_ok _ _) (.cons (.gd rfl hg) (.cons (.gd rfl hg) .nil)) rfl rfl) ?_
    refine jg_gd _ _ _ _ _ _ rfl rfl rfl rfl rfl (fun hg => op_not (.gd rfl hg)) ?_
    refine jg_adr _ rfl _ rfl rfl (op_pick_or (.base rfl) (.base rfl) rfl (by intro h; first | (rw [h]; rfl) | (rw [hg, h]; rfl) | (rw [h, hg]; rfl) | simp_all)) ?_
    refine jg_nil ?_
    refine jn_keep [1, 2, 29] [2] (.cons rfl (.cons rfl (.cons rfl .nil))) (.cons rfl .nil) ?_
    refine jn_seq ?_
    refine j_cond rfl (fun h3 => ?_) (fun h3 => ?_)
    · have h3 : (!(validType t.2.1 en) || !(validType t.2.2.1 en)) = true := h3
      refine j_seq ?_
      refine j_region ?_
      refine jg_adr _ rfl _ rfl rfl (op_assign (.base rfl)) ?_
      refine jg_adr _ rfl _ rfl rfl (op_assign (.base rfl)) ?_
      refine jg_nil ?_
      refine jn_keep [4, 5] [] (.cons rfl (.cons rfl .nil)) .nil ?_
      refine jn_seq (j_ret (jr_seq ?_))
      exact jr_fin2 Try.results13 (res_tmp rfl) (res_tmp rfl) ⟨rfl, rfl⟩ (sv22_eq (by unfold valR; rw [if_neg (by omega), if_pos h3]))
    · have h3 : (!(validType t.2.1 en) || !(validType t.2.2.1 en)) = false := h3
      refine j_skip (jn_seq (j_seq ?_))
      refine j_region ?_
      refine jg_adr _ rfl _ rfl rfl (op_ofield fld26_1 (.base rfl)) ?_
      refine jg_adr _ rfl _ rfl rfl (op_oload ty23 (.base rfl) rfl rfl ln26_1) ?_
      refine jg_adr _ rfl _ rfl rfl (op_move (.base rfl)) ?_
      refine jg_adr _ rfl _ rfl rfl (op_call (bounds_ok _ _) (.cons (.base rfl) (.cons (.base rfl) .nil)) rfl rfl) ?_
      refine jg_adr _ rfl _ rfl rfl (op_move (.base rfl)) ?_
      refine jg_adr _ rfl _ rfl rfl (op_ext20 (.base rfl)) ?_
      refine jg_adr _ rfl _ rfl rfl (op_ext21 (.base rfl)) ?_
      refine jg_adr _ rfl _ rfl rfl (op_assign (.base rfl)) ?_
      refine jg_adr _ rfl _ rfl rfl (op_assign (.base rfl)) ?_
      refine jg_nil ?_
      refine jn_keep [1, 2, 6, 7] [2] (.cons rfl (.cons rfl (.cons rfl (.cons rfl .nil)))) (.cons rfl .nil) ?_
      refine jn_seq (j_seq ?_)
      refine j_region ?_
      refine jg_adr _ rfl _ rfl rfl (op_ofield fld26_2 (.base rfl)) ?_
      refine jg_adr _ rfl _ rfl rfl (op_oload ty23 (.base rfl) rfl rfl ln26_2) ?_
      refine jg_adr _ rfl _ rfl rfl (op_move (.base rfl)) ?_
      refine jg_adr _ rfl _ rfl rfl (op_call (bounds_ok _ _) (.cons (.base rfl) (.cons (.base rfl) .nil)) rfl rfl) ?_
      refine jg_adr _ rfl _ rfl rfl (op_move (.base rfl)) ?_
      refine jg_adr _ rfl _ rfl rfl (op_ext20 (.base rfl)) ?_
      refine jg_adr _ rfl _ rfl rfl (op_ext21 (.base rfl)) ?_
      refine jg_adr _ rfl _ rfl rfl (op_assign (.base rfl)) ?_
      refine jg_adr _ rfl _ rfl rfl (op_assign (.base rfl)) ?_
      refine jg_nil ?_
      refine jn_keep [2, 6, 7, 8, 9] [2] (.cons rfl (.cons rfl (.cons rfl (.cons rfl (.cons rfl .nil))))) (.cons rfl .nil) ?_
      refine jn_seq (j_seq (j_seq ?_))
      refine j_region ?_
      refine jg_adr _ rfl _ rfl rfl (op_ofield fld26_3 (.base rfl)) ?_
      refine jg_adr _ rfl _ rfl rfl (op_oload ty24 (.base rfl) rfl rfl ln26_3) ?_
      refine jg_adr _ rfl _ rfl rfl (op_len Try.underlying24 (.base rfl)) ?_
      refine jg_adr _ rfl _ rfl rfl (op_move (.base rfl)) ?_
      refine jg_nil ?_
      refine jn_keep [2, 6, 7, 8, 9, 45, 46, 47] [2] (.cons rfl (.cons rfl (.cons rfl (.cons rfl (.cons rfl (.cons rfl (.cons rfl (.cons rfl .nil)))))))) (.cons rfl .nil) ?_
      refine jn_seq (j_block ?_)
      refine j_loopp (ι := Nat) (fun k => ⟨[(2, .optr 2 rTable.n 0 0), (6, .raw (.int .i64 ((bounds t.2.1 en).1))), (7, .raw (.int .i64 ((bounds t.2.1 en).2))), (8, .raw (.int .i64 ((bounds t.2.2.1 en).1))), (9, .raw (.int .i64 ((bounds t.2.2.1 en).2))), (45, .tv (rSlice rRow) t.2.2.2), (46, .raw (.int .i64 (t.2.2.2.length))), (47, .raw (.int .i64 ((k : Nat))))], [(2, ⟨rTable, [t]⟩)]⟩) (fun k => k ≤ t.2.2.2.length ∧ valF (badR t en) t.2.2.2 (t.2.2.2.length - k) = valF (badR t en) t.2.2.2 t.2.2.2.length) (fun k => t.2.2.2.length - k) 0 (⟨Nat.zero_le _, rfl⟩) (fun a w hi => (Sub.inv ⟨(by repeat (first | exact SubS_nil | refine SubS_cons rfl (by first | rfl | (simp; done) | assumption) ?_)), (by repeat (first | exact SubH_nil | refine SubH_cons rfl (by first | rfl | (simp; done) | assumption) ?_))⟩ hi)) ?_
      rintro k ⟨p1, p2⟩
      refine j_seq ?_
      refine j_region ?_
      refine jg_adr _ rfl _ rfl rfl (op_lss (.base rfl) (.base rfl)) ?_
      refine jg_nil ?_
      refine jn_keep [2, 6, 7, 8, 9, 45, 46, 47, 48] [2] (.cons rfl (.cons rfl (.cons rfl (.cons rfl (.cons rfl (.cons rfl (.cons rfl (.cons rfl (.cons rfl .nil))))))))) (.cons rfl .nil) ?_
      refine jn_seq (j_seq ?_)
      refine j_cond rfl (fun h8 => ?_) (fun h8 => ?_)
      · simp at h8
        have hk := hK _ (List.getElem_mem h8)
        unfold KeyI at hk
        refine j_skip (jn_seq (j_seq (j_block (j_seq ?_))))
        refine j_region ?_
        refine jg_adr _ rfl _ rfl rfl (op_move (.base rfl)) ?_
        refine jg_adr _ rfl _ rfl rfl (op_index Try.underlying24 ty50 (.base rfl) (.base rfl) rfl (List.getElem?_eq_getElem (by first | omega | (simp; done) | (simp; omega) | (simp at hg; omega)))) ?_
        refine jg_adr _ rfl _ rfl rfl (op_load ty50 (.base rfl)) ?_
        refine jg_os _ rfl (op_alloc _ z50 rfl rfl rfl) ?_
        refine jg_adr _ rfl _ rfl rfl (op_assign (.base rfl)) ?_
        refine jg_os _ rfl (op_ostore ty50 (.base rfl) rfl rfl (Lens.id _) (.tv (.base rfl))) ?_
        refine jg_nil ?_
        refine jn_keep [2, 6, 7, 8, 9, 10, 11, 45, 46, 47] [2, 11] (.cons rfl (.cons rfl (.cons rfl (.cons rfl (.cons rfl (.cons rfl (.cons rfl (.cons rfl (.cons rfl (.cons rfl .nil)))))))))) (.cons rfl (.cons rfl .nil)) ?_
        refine jn_seq (j_seq (j_seq ?_))
        refine j_region ?_
        refine jg_adr _ rfl _ rfl rfl (op_ofield fld50_0 (.base rfl)) ?_
        refine jg_adr _ rfl _ rfl rfl (op_oload ty48 (.base rfl) rfl rfl ln50_0) ?_
        refine jg_adr _ rfl _ rfl rfl (op_call (dvalid_ok _) (.cons (.base rfl) .nil) rfl rfl) ?_
        refine jg_adr _ rfl _ rfl rfl (op_not (.base rfl)) ?_
        refine jg_adr _ rfl _ rfl rfl (op_move (.base rfl)) ?_
        refine jg_gd _ _ _ _ _ _ rfl rfl rfl rfl rfl (fun hg => op_ofield fld50_0 (.base rfl)) ?_
        refine jg_gd _ _ _ _ _ _ rfl rfl rfl rfl rfl (fun hg => op_ofield fld48_0 (.gd rfl hg)) ?_
        refine jg_gd _ _ _ _ _ _ rfl rfl rfl rfl rfl (fun hg => op_oload ty3 (.gd rfl hg) rfl rfl (Lens.comp ln50_0 ln48_0)) ?_
        refine jg_gd _ _ _ _ _ _ rfl rfl rfl rfl rfl (fun hg => op_ofield fld50_0 (.base rfl)) ?_
        refine jg_gd _ _ _ _ _ _ rfl rfl rfl rfl rfl (fun hg => op_ofield fld48_1 (.gd rfl hg)) ?_
        refine jg_gd _ _ _ _ _ _ rfl rfl rfl rfl rfl (fun hg => op_oload ty3 (.gd rfl hg) rfl rfl (Lens.comp ln50_0 ln48_1)) ?_
        refine jg_gd _ _ _ _ _ _ rfl rfl rfl rfl rfl (fun hg => op_eql (.gd rfl hg) (.gd rfl hg)) ?_
        refine jg_adr _ rfl _ rfl rfl (op_pick_or (.base rfl) (.base rfl) rfl (by intro h; first | (rw [h]; rfl) | (rw [hg, h]; rfl) | (rw [h, hg]; rfl) | simp_all)) ?_
        refine jg_adr _ rfl _ rfl rfl (op_move (.base rfl)) ?_
        refine jg_gd _ _ _ _ _ _ rfl rfl rfl rfl rfl (fun hg => op_ofield fld50_1 (.base rfl)) ?_
        refine jg_gd _ _ _ _ _ _ rfl rfl rfl rfl rfl (fun hg => op_oload ty3 (.gd rfl hg) rfl rfl ln50_1) ?_
        refine jg_gd _ _ _ _ _ _ rfl rfl rfl rfl rfl (fun hg => op_ofield fld50_2 (.base rfl)) ?_
        refine jg_gd _ _ _ _ _ _ rfl rfl rfl rfl rfl (fun hg => op_oload ty3 (.gd rfl hg) rfl rfl ln50_2) ?_
        refine jg_gd _ _ _ _ _ _ rfl rfl rfl rfl rfl (fun hg => op_geq (.gd rfl hg) (.gd rfl hg)) ?_
        refine jg_adr _ rfl _ rfl rfl (op_pick_or (.base rfl) (.base rfl) rfl (by intro h; first | (rw [h]; rfl) | (rw [hg, h]; rfl) | (rw [h, hg]; rfl) | simp_all)) ?_
        refine jg_nil ?_
        refine jn_keep [2, 6, 7, 8, 9, 10, 11, 45, 46, 47, 71] [2, 11] (.cons rfl (.cons rfl (.cons rfl (.cons rfl (.cons rfl (.cons rfl (.cons rfl (.cons rfl (.cons rfl (.cons rfl (.cons rfl .nil))))))))))) (.cons rfl (.cons rfl .nil)) ?_
        refine jn_seq ?_
        refine j_cond rfl (fun h10 => ?_) (fun h10 => ?_)
        · have h10 : badA (t.2.2.2[k]) = true := h10
          have hb : badR t en (t.2.2.2[k]) = true := by unfold badR; rw [h10]; rfl
          refine j_seq ?_
          refine j_region ?_
          refine jg_adr _ rfl _ rfl rfl (op_move (.base rfl)) ?_
          refine jg_adr _ rfl _ rfl rfl (op_assign (.base rfl)) ?_
          refine jg_adr _ rfl _ rfl rfl (op_assign (.base rfl)) ?_
          refine jg_nil ?_
          refine jn_keep [4, 5] [] (.cons rfl (.cons rfl .nil)) .nil ?_
          refine jn_seq (j_ret (jr_seq (jr_blk (jr_seq (jr_loop (jr_blk (jr_seq ?_)))))))
          exact jr_fin2 Try.results13 (res_tmp rfl) (res_tmp rfl) ⟨rfl, rfl⟩ (sv22_eq (by unfold valR; rw [if_neg (by omega), if_neg (by rw [h3]; simp), ← p2, valF_at h8, if_pos hb]))
        · have h10 : badA (t.2.2.2[k]) = false := h10
          have k10 : (t.2.2.2[k]).2.1 < (t.2.2.2[k]).2.2.1 := by simp [badA] at h10; omega
          refine j_skip (jn_seq (j_seq (j_seq ?_)))
          refine j_region ?_
          refine jg_adr _ rfl _ rfl rfl (op_ofield fld50_1 (.base rfl)) ?_
          refine jg_adr _ rfl _ rfl rfl (op_oload ty3 (.base rfl) rfl rfl ln50_1) ?_
          refine jg_adr _ rfl _ rfl rfl (op_move (.base rfl)) ?_
          refine jg_adr _ rfl _ rfl rfl (op_lss (.base rfl) (.base rfl)) ?_
          refine jg_adr _ rfl _ rfl rfl (op_move (.base rfl)) ?_
          refine jg_gd _ _ _ _ _ _ rfl rfl rfl rfl rfl (fun hg => op_ofield fld50_1 (.base rfl)) ?_
          refine jg_gd _ _ _ _ _ _ rfl rfl rfl rfl rfl (fun hg => op_oload ty3 (.gd rfl hg) rfl rfl ln50_1) ?_
          refine jg_gd _ _ _ _ _ _ rfl rfl rfl rfl rfl (fun hg => op_move (.base rfl)) ?_
          refine jg_gd _ _ _ _ _ _ rfl rfl rfl rfl rfl (fun hg => op_gtr (.gd rfl hg) (.gd rfl hg)) ?_
          refine jg_adr _ rfl _ rfl rfl (op_pick_or (.base rfl) (.base rfl) rfl (by intro h; first | (rw [h]; rfl) | (rw [hg, h]; rfl) | (rw [h, hg]; rfl) | simp_all)) ?_
          refine jg_adr _ rfl _ rfl rfl (op_move (.base rfl)) ?_
          refine jg_gd _ _ _ _ _ _ rfl rfl rfl rfl rfl (fun hg => op_ofield fld50_2 (.base rfl)) ?_
          refine jg_gd _ _ _ _ _ _ rfl rfl rfl rfl rfl (fun hg => op_oload ty3 (.gd rfl hg) rfl rfl ln50_2) ?_
          refine jg_gd _ _ _ _ _ _ rfl rfl rfl rfl rfl (fun hg => op_sub (.gd rfl hg) (.base rfl) (w64 (by omega))) ?_
          refine jg_gd _ _ _ _ _ _ rfl rfl rfl rfl rfl (fun hg => op_move (.base rfl)) ?_
          refine jg_gd _ _ _ _ _ _ rfl rfl rfl rfl rfl (fun hg => op_lss (.gd rfl hg) (.gd rfl hg)) ?_
          refine jg_adr _ rfl _ rfl rfl (op_pick_or (.base rfl) (.base rfl) rfl (by intro h; first | (rw [h]; rfl) | (rw [hg, h]; rfl) | (rw [h, hg]; rfl) | simp_all)) ?_
          refine jg_adr _ rfl _ rfl rfl (op_move (.base rfl)) ?_
          refine jg_gd _ _ _ _ _ _ rfl rfl rfl rfl rfl (fun hg => op_ofield fld50_2 (.base rfl)) ?_
          refine jg_gd _ _ _ _ _ _ rfl rfl rfl rfl rfl (fun hg => op_oload ty3 (.gd rfl hg) rfl rfl ln50_2) ?_
          refine jg_gd _ _ _ _ _ _ rfl rfl rfl rfl rfl (fun hg => op_sub (.gd rfl hg) (.base rfl) (w64 (by omega))) ?_
          refine jg_gd _ _ _ _ _ _ rfl rfl rfl rfl rfl (fun hg => op_move (.base rfl)) ?_
          refine jg_gd _ _ _ _ _ _ rfl rfl rfl rfl rfl (fun hg => op_gtr (.gd rfl hg) (.gd rfl hg)) ?_
          refine jg_adr _ rfl _ rfl rfl (op_pick_or (.base rfl) (.base rfl) rfl (by intro h; first | (rw [h]; rfl) | (rw [hg, h]; rfl) | (rw [h, hg]; rfl) | simp_all)) ?_
          refine jg_nil ?_
          refine jn_keep [2, 6, 7, 8, 9, 10, 11, 45, 46, 47, 96] [2, 11] (.cons rfl (.cons rfl (.cons rfl (.cons rfl (.cons rfl (.cons rfl (.cons rfl (.cons rfl (.cons rfl (.cons rfl (.cons rfl .nil))))))))))) (.cons rfl (.cons rfl .nil)) ?_
          refine jn_seq ?_
          refine j_cond rfl (fun h12 => ?_) (fun h12 => ?_)
          · have hb : badR t en (t.2.2.2[k]) = true := by
              have q : inB t.2.1 en (t.2.2.2[k]).2.1 = false ∨ inB t.2.1 en ((t.2.2.2[k]).2.2.1 - 1) = false := by rw [inB_f, inB_f]; simp at h12; omega
              unfold badR badB; rcases q with q | q <;> rw [q] <;> simp
            refine j_seq ?_
            refine j_region ?_
            refine jg_adr _ rfl _ rfl rfl (op_move (.base rfl)) ?_
            refine jg_adr _ rfl _ rfl rfl (op_assign (.base rfl)) ?_
            refine jg_adr _ rfl _ rfl rfl (op_assign (.base rfl)) ?_
            refine jg_nil ?_
            refine jn_keep [4, 5] [] (.cons rfl (.cons rfl .nil)) .nil ?_
            refine jn_seq (j_ret (jr_seq (jr_blk (jr_seq (jr_loop (jr_blk (jr_seq ?_)))))))
            exact jr_fin2 Try.results13 (res_tmp rfl) (res_tmp rfl) ⟨rfl, rfl⟩ (sv22_eq (by unfold valR; rw [if_neg (by omega), if_neg (by rw [h3]; simp), ← p2, valF_at h8, if_pos hb]))
          · have k12 : inB t.2.1 en (t.2.2.2[k]).2.1 = true ∧ inB t.2.1 en ((t.2.2.2[k]).2.2.1 - 1) = true := by rw [inB_t, inB_t]; simp at h12; omega
            refine j_skip (jn_seq (j_seq (j_seq ?_)))
            refine j_region ?_
            refine jg_adr _ rfl _ rfl rfl (op_ofield fld50_3 (.base rfl)) ?_
            refine jg_adr _ rfl _ rfl rfl (op_oload ty3 (.base rfl) rfl rfl ln50_3) ?_
            refine jg_adr _ rfl _ rfl rfl (op_move (.base rfl)) ?_
            refine jg_adr _ rfl _ rfl rfl (op_lss (.base rfl) (.base rfl)) ?_
            refine jg_adr _ rfl _ rfl rfl (op_move (.base rfl)) ?_
            refine jg_gd _ _ _ _ _ _ rfl rfl rfl rfl rfl (fun hg => op_ofield fld50_3 (.base rfl)) ?_
            refine jg_gd _ _ _ _ _ _ rfl rfl rfl rfl rfl (fun hg => op_oload ty3 (.gd rfl hg) rfl rfl ln50_3) ?_
            refine jg_gd _ _ _ _ _ _ rfl rfl rfl rfl rfl (fun hg => op_move (.base rfl)) ?_
            refine jg_gd _ _ _ _ _ _ rfl rfl rfl rfl rfl (fun hg => op_gtr (.gd rfl hg) (.gd rfl hg)) ?_
            refine jg_adr _ rfl _ rfl rfl (op_pick_or (.base rfl) (.base rfl) rfl (by intro h; first | (rw [h]; rfl) | (rw [hg, h]; rfl) | (rw [h, hg]; rfl) | simp_all)) ?_
            refine jg_nil ?_
            refine jn_keep [2, 6, 7, 8, 9, 10, 11, 45, 46, 47, 107] [2, 11] (.cons rfl (.cons rfl (.cons rfl (.cons rfl (.cons rfl (.cons rfl (.cons rfl (.cons rfl (.cons rfl (.cons rfl (.cons rfl .nil))))))))))) (.cons rfl (.cons rfl .nil)) ?_
            refine jn_seq ?_
            refine j_cond rfl (fun h14 => ?_) (fun h14 => ?_)
            · have hb : badR t en (t.2.2.2[k]) = true := by
                have q : inB t.2.2.1 en (t.2.2.2[k]).2.2.2 = false := by rw [inB_f]; simp at h14; omega
                unfold badR badB; rw [q]; simp
              refine j_seq ?_
              refine j_region ?_
              refine jg_adr _ rfl _ rfl rfl (op_move (.base rfl)) ?_
              refine jg_adr _ rfl _ rfl rfl (op_assign (.base rfl)) ?_
              refine jg_adr _ rfl _ rfl rfl (op_assign (.base rfl)) ?_
              refine jg_nil ?_
              refine jn_keep [4, 5] [] (.cons rfl (.cons rfl .nil)) .nil ?_
              refine jn_seq (j_ret (jr_seq (jr_blk (jr_seq (jr_loop (jr_blk (jr_seq ?_)))))))
              exact jr_fin2 Try.results13 (res_tmp rfl) (res_tmp rfl) ⟨rfl, rfl⟩ (sv22_eq (by unfold valR; rw [if_neg (by omega), if_neg (by rw [h3]; simp), ← p2, valF_at h8, if_pos hb]))
            · have hb : badR t en (t.2.2.2[k]) = false := by
                have q : inB t.2.2.1 en (t.2.2.2[k]).2.2.2 = true := by rw [inB_t]; simp at h14; omega
                unfold badR badB; rw [h10, k12.1, k12.2, q]; rfl
              refine j_skip (jn_seq (j_seq ?_))
              refine j_sealp 11 11 (dropH 11 _) rfl rfl (dropH_sub 11 _) (dropH_no 11 _) ?_
              refine j_region ?_
              refine jg_adr _ rfl _ rfl rfl (op_ofield fld26_3 (.base rfl)) ?_
              refine jg_adr _ rfl _ rfl rfl (op_oload ty24 (.base rfl) rfl rfl ln26_3) ?_
              refine jg_adr _ rfl _ rfl rfl (op_move (.base rfl)) ?_
              refine jg_adr _ rfl _ rfl rfl (op_slice Try.underlying24 ty50 (.base rfl) rfl ⟨_, _, (.base rfl), rfl⟩ (by omega) (by omega)) ?_
              refine jg_adr _ rfl _ rfl rfl (op_mkfun (A := rRow) (B := rBool) (sa := [.eptr rRow (t.2.2.2[k]'h8)]) (φ := fun _ => True) (fun x => confl x (t.2.2.2[k]'h8)) (callFunc_enter Try.func35 rfl (by kernel_rfl)) (fun x _ => vdc_ok x (t.2.2.2[k]'h8)) (.cons (.base rfl) .nil) rfl) ?_
              refine jg_adr _ rfl _ rfl rfl (op_call (first_ok _ _) (.cons (.base rfl) (.cons (.base rfl) .nil)) rfl rfl) ?_
              refine jg_adr _ rfl _ rfl rfl (op_move (.base rfl)) ?_
              refine jg_adr _ rfl _ rfl rfl (op_ext20 (.base rfl)) ?_
              refine jg_adr _ rfl _ rfl rfl (op_ext21 (.base rfl)) ?_
              refine jg_adr _ rfl _ rfl rfl (op_assign (.base rfl)) ?_
              refine jg_adr _ rfl _ rfl rfl (op_assign (.base rfl)) ?_
              refine jg_nil ?_
              rw [List.drop_zero]
              refine jn_keep [2, 6, 7, 8, 9, 10, 13, 45, 46, 47] [2] (.cons rfl (.cons rfl (.cons rfl (.cons rfl (.cons rfl (.cons rfl (.cons rfl (.cons rfl (.cons rfl (.cons rfl .nil)))))))))) (.cons rfl .nil) ?_
              refine jn_seq (j_seq ?_)
              refine j_region ?_
              refine jg_adr _ rfl _ rfl rfl (op_move (.base rfl)) ?_
              refine jg_nil ?_
              refine jn_keep [2, 6, 7, 8, 9, 10, 45, 46, 47, 118] [2] (.cons rfl (.cons rfl (.cons rfl (.cons rfl (.cons rfl (.cons rfl (.cons rfl (.cons rfl (.cons rfl (.cons rfl .nil)))))))))) (.cons rfl .nil) ?_
              refine jn_seq ?_
              refine j_cond rfl (fun h17 => ?_) (fun h17 => ?_)
              · skip
                refine j_seq ?_
                refine j_region ?_
                refine jg_adr _ rfl _ rfl rfl (op_move (.base rfl)) ?_
                refine jg_adr _ rfl _ rfl rfl (op_assign (.base rfl)) ?_
                refine jg_adr _ rfl _ rfl rfl (op_assign (.base rfl)) ?_
                refine jg_nil ?_
                refine jn_keep [4, 5] [] (.cons rfl (.cons rfl .nil)) .nil ?_
                refine jn_seq (j_ret (jr_blk (jr_seq (jr_loop (jr_blk (jr_seq ?_))))))
                exact jr_fin2 Try.results13 (res_tmp rfl) (res_tmp rfl) ⟨rfl, rfl⟩ (sv22_eq (by unfold valR; rw [if_neg (by omega), if_neg (by rw [h3]; simp), ← p2, valF_at h8, if_neg (by rw [hb]; simp), if_pos h17]))
              · skip
                refine j_skip (jn_blk (jn_seq ?_))
                refine j_region ?_
                refine jg_adr _ rfl _ rfl rfl (op_add (.base rfl) (.base rfl) (w64 (by omega))) ?_
                refine jg_adr _ rfl _ rfl rfl (op_move (.base rfl)) ?_
                refine jg_nil ?_
                refine jn_keep [2, 6, 7, 8, 9, 45, 46, 47] [2] (.cons rfl (.cons rfl (.cons rfl (.cons rfl (.cons rfl (.cons rfl (.cons rfl (.cons rfl .nil)))))))) (.cons rfl .nil) ?_
                exact jn_loop (fun a w hi => ⟨k + 1, (by first | omega | (simp; omega)), (⟨by omega, by rw [← p2, valF_at h8, if_neg (by rw [hb]; simp), if_neg (by rw [h17]; simp)]⟩), (Sub.inv ⟨(by repeat (first | exact SubS_nil | refine SubS_cons rfl (by first | rfl | (simp; done) | assumption) ?_)), (by repeat (first | exact SubH_nil | refine SubH_cons rfl (by first | rfl | (simp; done) | assumption) ?_))⟩ hi)⟩)
      · simp at h8
        refine j_exit (je_seq (je_loop (je_blk (jn_seq (j_seq ?_)))))
        refine j_region ?_
        refine jg_adr _ rfl _ rfl rfl (op_assign (.base rfl)) ?_
        refine jg_adr _ rfl _ rfl rfl (op_assign (.base rfl)) ?_
        refine jg_nil ?_
        refine jn_keep [4, 5] [] (.cons rfl (.cons rfl .nil)) .nil ?_
        refine jn_seq (j_ret ?_)
        exact jr_fin2 Try.results13 (res_tmp rfl) (res_tmp rfl) ⟨rfl, rfl⟩ (sv22_eq (by unfold valR; rw [if_neg (by omega), if_neg (by rw [h3]; simp), ← p2, show t.2.2.2.length - k = 0 by omega]; rfl))

theorem rvalidate_ok (t : TTable) (en : List TEnum) (hK : ∀ x ∈ t.2.2.2, KeyI x) : Ct Try.prog 14 [.tv rTable t, .tv (rSlice rEnum) en] (sv22 (valR t en)) := by
  refine ct_intro Try.func14 rfl rfl Try.ntmps14 rfl rfl ?_
  intro w0 ok0
  refine j_seq ?_
  refine j_region ?_
  refine jg_os _ rfl (op_box (.tv (.base rfl)) rfl rfl rfl) ?_
  refine jg_adr _ rfl _ rfl rfl (op_assign (.base rfl)) ?_
  refine jg_adr _ rfl _ rfl rfl (op_assign (.base rfl)) ?_
  refine jg_nil ?_
  refine jn_keep [1, 2] [2] (.cons rfl (.cons rfl .nil)) (.cons rfl .nil) ?_
  refine jn_seq (j_seq (j_seq ?_))
  refine j_region ?_
  refine jg_adr _ rfl _ rfl rfl (op_ofield fld26_3 (.base rfl)) ?_
  refine jg_adr _ rfl _ rfl rfl (op_oload ty24 (.base rfl) rfl rfl ln26_3) ?_
  refine jg_adr _ rfl _ rfl rfl (op_len Try.underlying24 (.base rfl)) ?_
  refine jg_adr _ rfl _ rfl rfl (op_gtr (.base rfl) (.base rfl)) ?_
  refine jg_nil ?_
  refine jn_keep [1, 2, 11] [2] (.cons rfl (.cons rfl (.cons rfl .nil))) (.cons rfl .nil) ?_
  refine jn_seq ?_
  refine j_cond rfl (fun h1 => ?_) (fun h1 => ?_)
  · simp at h1
    refine j_seq ?_
    refine j_region ?_
    refine jg_adr _ rfl _ rfl rfl (op_assign (.base rfl)) ?_
    refine jg_adr _ rfl _ rfl rfl (op_assign (.base rfl)) ?_
    refine jg_nil ?_
    refine jn_keep [4, 5] [] (.cons rfl (.cons rfl .nil)) .nil ?_
    refine jn_seq (j_ret (jr_seq ?_))
    exact jr_fin2 Try.results14 (res_tmp rfl) (res_tmp rfl) ⟨rfl, rfl⟩ (sv22_eq (by unfold valR; rw [if_pos (by omega)]))
  · simp at h1
    refine j_skip (jn_seq (j_seq (j_seq ?_)))
    refine j_region ?_
    refine jg_adr _ rfl _ rfl rfl (op_ofield fld26_1 (.base rfl)) ?_
    refine jg_adr _ rfl _ rfl rfl (op_oload ty23 (.base rfl) rfl rfl ln26_1) ?_
    refine jg_adr _ rfl _ rfl rfl (op_move (.base rfl)) ?_
    refine jg_adr _ rfl _ rfl rfl (op_call (rvalidType_ok _ _) (.cons (.base rfl) (.cons (.base rfl) .nil)) rfl rfl) ?_
    refine jg_adr _ rfl _ rfl rfl (op_not (.base rfl)) ?_
    refine jg_adr _ rfl _ rfl rfl (op_move (.base rfl)) ?_
    refine jg_gd _ _ _ _ _ _ rfl rfl rfl rfl rfl (fun hg => op_ofield fld26_2 (.base rfl)) ?_
    refine jg_gd _ _ _ _ _ _ rfl rfl rfl rfl rfl (fun hg => op_oload ty23 (.gd rfl hg) rfl rfl ln26_2) ?_
    refine jg_gd _ _ _ _ _ _ rfl rfl rfl rfl rfl (fun hg => op_move (.base rfl)) ?_
    refine jg_gd _ _ _ _ _ _ rfl rfl rfl rfl rfl (fun hg => op_call (rvalidType_ok _ _) (.cons (.gd rfl hg) (.cons (.gd rfl hg) .nil)) rfl rfl) ?_
    refine jg_gd _ _ _ _ _ _ rfl rfl rfl rfl rfl (fun hg => op_not (.gd rfl hg)) ?_
    refine jg_adr _ rfl _ rfl rfl (op_pick_or (.base rfl) (.base rfl) rfl (by intro h; first | (rw [h]; rfl) | (rw [hg, h]; rfl) | (rw [h, hg]; rfl) | simp_all)) ?_
    refine jg_nil ?_
    refine jn_keep [1, 2, 23] [2] (.cons rfl (.cons rfl (.cons rfl .nil))) (.cons rfl .nil) ?_
    refine jn_seq ?_
    refine j_cond rfl (fun h3 => ?_) (fun h3 => ?_)
    · have h3 : (!(validType t.2.1 en) || !(validType t.2.2.1 en)) = true := h3
      refine j_seq ?_
      refine j_region ?_
      refine jg_adr _ rfl _ rfl rfl (op_assign (.base rfl)) ?_
      refine jg_adr _ rfl _ rfl rfl (op_assign (.base rfl)) ?_
      refine jg_nil ?_
      refine jn_keep [4, 5] [] (.cons rfl (.cons rfl .nil)) .nil ?_
      refine jn_seq (j_ret (jr_seq ?_))
      exact jr_fin2 Try.results14 (res_tmp rfl) (res_tmp rfl) ⟨rfl, rfl⟩ (sv22_eq (by unfold valR; rw [if_neg (by omega), if_pos h3]))
    · have h3 : (!(validType t.2.1 en) || !(validType t.2.2.1 en)) = false := h3
      refine j_skip (jn_seq (j_seq (j_seq ?_)))
      refine j_region ?_
      refine jg_adr _ rfl _ rfl rfl (op_assign (.base rfl)) ?_
      refine jg_nil ?_
      refine jn_keep [1, 2, 6] [2] (.cons rfl (.cons rfl (.cons rfl .nil))) (.cons rfl .nil) ?_
      refine jn_seq (j_block ?_)
      refine j_loopp (ι := Nat) (fun i => ⟨[(1, .tv (rSlice rEnum) en), (2, .optr 2 rTable.n 0 0), (6, .raw (.int .i64 ((i : Nat))))], [(2, ⟨rTable, [t]⟩)]⟩) (fun i => i ≤ t.2.2.2.length ∧ valF (badR t en) t.2.2.2 (t.2.2.2.length - i) = valF (badR t en) t.2.2.2 t.2.2.2.length) (fun i => t.2.2.2.length - i) 0 (⟨Nat.zero_le _, rfl⟩) (fun a w hi => (Sub.inv ⟨(by repeat (first | exact SubS_nil | refine SubS_cons rfl (by first | rfl | (simp; done) | assumption) ?_)), (by repeat (first | exact SubH_nil | refine SubH_cons rfl (by first | rfl | (simp; done) | assumption) ?_))⟩ hi)) ?_
      rintro i ⟨p1, p2⟩
      refine j_seq (j_seq ?_)
      refine j_region ?_
      refine jg_adr _ rfl _ rfl rfl (op_move (.base rfl)) ?_
      refine jg_adr _ rfl _ rfl rfl (op_ofield fld26_3 (.base rfl)) ?_
      refine jg_adr _ rfl _ rfl rfl (op_oload ty24 (.base rfl) rfl rfl ln26_3) ?_
      refine jg_adr _ rfl _ rfl rfl (op_len Try.underlying24 (.base rfl)) ?_
      refine jg_adr _ rfl _ rfl rfl (op_lss (.base rfl) (.base rfl)) ?_
      refine jg_nil ?_
      refine jn_keep [1, 2, 6, 28] [2] (.cons rfl (.cons rfl (.cons rfl (.cons rfl .nil)))) (.cons rfl .nil) ?_
      refine jn_seq ?_
      refine j_cond rfl (fun h6 => ?_) (fun h6 => ?_)
      · simp at h6
        have htl : (t.2.2.2.take i).length = i := by simp; omega
        refine j_skip (jn_seq (j_seq (j_block (j_seq (j_seq ?_)))))
        refine j_draw mo (by kernel_rfl) (
          AS.cons _ _ rfl (ga_adr rfl rfl rfl (op_ofield fld26_3 (.base rfl))) (
            AS.cons _ _ rfl (ga_adr rfl rfl rfl (op_oload ty24 (.base rfl) rfl rfl ln26_3)) (
            AS.cons _ _ rfl (ga_adr rfl rfl rfl (op_move (.base rfl))) (
            AS.cons _ _ rfl (ga_adr rfl rfl rfl (op_index Try.underlying24 ty50 (.base rfl) (.base rfl) rfl (List.getElem?_eq_getElem (by first | omega | (simp; done) | (simp; omega) | (simp at hg; omega))))) (
            AS.cons _ _ rfl (ga_adr rfl rfl rfl (op_load ty50 (.base rfl))) (
            AS.cons _ _ rfl (ga_adr rfl rfl rfl (op_oload ty26 (.base rfl) rfl rfl (Lens.id _))) (
            AS.cons _ _ rfl (ga_adr rfl rfl rfl (op_move (.base rfl))) (
            AS.cons _ _ rfl (ga_adr rfl rfl rfl (op_call (wrong_ok _ _ _ (hK _ (List.getElem_mem _))) (.cons (.base rfl) (.cons (.base rfl) (.cons (.base rfl) .nil))) rfl rfl)) (
            AS.nil))))))))) ?_
        refine jn_keep [1, 2, 6, 38] [2] (.cons rfl (.cons rfl (.cons rfl (.cons rfl .nil)))) (.cons rfl .nil) ?_
        refine jn_seq ?_
        refine j_cond rfl (fun h8 => ?_) (fun h8 => ?_)
        · skip
          refine j_seq ?_
          refine j_region ?_
          refine jg_adr _ rfl _ rfl rfl (op_move (.base rfl)) ?_
          refine jg_adr _ rfl _ rfl rfl (op_assign (.base rfl)) ?_
          refine jg_adr _ rfl _ rfl rfl (op_assign (.base rfl)) ?_
          refine jg_nil ?_
          refine jn_keep [4, 5] [] (.cons rfl (.cons rfl .nil)) .nil ?_
          refine jn_seq (j_ret (jr_seq (jr_blk (jr_seq (jr_loop (jr_blk (jr_seq ?_)))))))
          exact jr_fin2 Try.results14 (res_tmp rfl) (res_tmp rfl) ⟨rfl, rfl⟩ (sv22_eq (by unfold valR; rw [if_neg (by omega), if_neg (by rw [h3]; simp), ← p2, valF_at h6, if_pos h8]))
        · skip
          refine j_skip (jn_seq (j_seq ?_))
          refine j_region ?_
          refine jg_adr _ rfl _ rfl rfl (op_assign (.base rfl)) ?_
          refine jg_nil ?_
          refine jn_keep [1, 2, 6, 7] [2] (.cons rfl (.cons rfl (.cons rfl (.cons rfl .nil)))) (.cons rfl .nil) ?_
          refine jn_seq (j_block ?_)
          refine j_loopp (ι := Nat) (fun k => ⟨[(1, .tv (rSlice rEnum) en), (2, .optr 2 rTable.n 0 0), (6, .raw (.int .i64 ((i : Nat)))), (7, .raw (.int .i64 ((k : Nat))))], [(2, ⟨rTable, [t]⟩)]⟩) (fun k => k ≤ i ∧ firstL (fun x => confl x t.2.2.2[i]) ((t.2.2.2.take i).drop k) k = firstL (fun x => confl x t.2.2.2[i]) (t.2.2.2.take i) 0) (fun k => i - k) 0 (⟨Nat.zero_le _, rfl⟩) (fun a w hi => (Sub.inv ⟨(by repeat (first | exact SubS_nil | refine SubS_cons rfl (by first | rfl | (simp; done) | assumption) ?_)), (by repeat (first | exact SubH_nil | refine SubH_cons rfl (by first | rfl | (simp; done) | assumption) ?_))⟩ hi)) ?_
          rintro k ⟨p3, p4⟩
          refine j_seq (j_seq ?_)
          refine j_region ?_
          refine jg_adr _ rfl _ rfl rfl (op_move (.base rfl)) ?_
          refine jg_adr _ rfl _ rfl rfl (op_move (.base rfl)) ?_
          refine jg_adr _ rfl _ rfl rfl (op_lss (.base rfl) (.base rfl)) ?_
          refine jg_nil ?_
          refine jn_keep [1, 2, 6, 7, 42] [2] (.cons rfl (.cons rfl (.cons rfl (.cons rfl (.cons rfl .nil))))) (.cons rfl .nil) ?_
          refine jn_seq ?_
          refine j_cond rfl (fun h11 => ?_) (fun h11 => ?_)
          · simp at h11
            have hd : (t.2.2.2.take i).drop k = t.2.2.2[k] :: (t.2.2.2.take i).drop (k + 1) := by rw [List.drop_eq_getElem_cons (by omega)]; simp
            refine j_skip (jn_seq (j_seq (j_block (j_seq ?_))))
            refine j_draw mo (by kernel_rfl) (
              AS.cons _ _ rfl (ga_adr rfl rfl rfl (op_ofield fld26_3 (.base rfl))) (
                AS.cons _ _ rfl (ga_adr rfl rfl rfl (op_oload ty24 (.base rfl) rfl rfl ln26_3)) (
                AS.cons _ _ rfl (ga_adr rfl rfl rfl (op_move (.base rfl))) (
                AS.cons _ _ rfl (ga_adr rfl rfl rfl (op_index Try.underlying24 ty50 (.base rfl) (.base rfl) rfl (List.getElem?_eq_getElem (by first | omega | (simp; done) | (simp; omega) | (simp at hg; omega))))) (
                AS.cons _ _ rfl (ga_adr rfl rfl rfl (op_load ty50 (.base rfl))) (
                AS.cons _ _ rfl (ga_adr rfl rfl rfl (op_ofield fld26_3 (.base rfl))) (
                AS.cons _ _ rfl (ga_adr rfl rfl rfl (op_oload ty24 (.base rfl) rfl rfl ln26_3)) (
                AS.cons _ _ rfl (ga_adr rfl rfl rfl (op_move (.base rfl))) (
                AS.cons _ _ rfl (ga_adr rfl rfl rfl (op_index Try.underlying24 ty50 (.base rfl) (.base rfl) rfl (List.getElem?_eq_getElem (by first | omega | (simp; done) | (simp; omega) | (simp at hg; omega))))) (
                AS.cons _ _ rfl (ga_adr rfl rfl rfl (op_load ty50 (.base rfl))) (
                AS.cons _ _ rfl (ga_adr rfl rfl rfl (op_call (rconflict_ok _ _) (.cons (.base rfl) (.cons (.base rfl) .nil)) rfl rfl)) (
                AS.nil)))))))))))) ?_
            refine jn_keep [1, 2, 6, 7, 55] [2] (.cons rfl (.cons rfl (.cons rfl (.cons rfl (.cons rfl .nil))))) (.cons rfl .nil) ?_
            refine jn_seq ?_
            refine j_cond rfl (fun h13 => ?_) (fun h13 => ?_)
            · have hin : firstL (fun x => confl x t.2.2.2[i]) (t.2.2.2.take i) 0 = ((k : Int), true) := by rw [← p4, hd, firstL, if_pos h13]
              refine j_seq ?_
              refine j_region ?_
              refine jg_adr _ rfl _ rfl rfl (op_move (.base rfl)) ?_
              refine jg_adr _ rfl _ rfl rfl (op_assign (.base rfl)) ?_
              refine jg_adr _ rfl _ rfl rfl (op_assign (.base rfl)) ?_
              refine jg_nil ?_
              refine jn_keep [4, 5] [] (.cons rfl (.cons rfl .nil)) .nil ?_
              refine jn_seq (j_ret (jr_blk (jr_seq (jr_loop (jr_blk (jr_blk (jr_seq (jr_loop (jr_blk (jr_seq ?_))))))))))
              exact jr_fin2 Try.results14 (res_tmp rfl) (res_tmp rfl) ⟨rfl, rfl⟩ (sv22_eq (by unfold valR; rw [if_neg (by omega), if_neg (by rw [h3]; simp), ← p2, valF_at h6, if_neg (by rw [h8]; simp), hin]; rfl))
            · skip
              refine j_skip (jn_blk (jn_seq ?_))
              refine j_region ?_
              refine jg_adr _ rfl _ rfl rfl (op_move (.base rfl)) ?_
              refine jg_adr _ rfl _ rfl rfl (op_add (.base rfl) (.base rfl) (w64 (by omega))) ?_
              refine jg_adr _ rfl _ rfl rfl (op_assign (.base rfl)) ?_
              refine jg_nil ?_
              refine jn_keep [1, 2, 6, 7] [2] (.cons rfl (.cons rfl (.cons rfl (.cons rfl .nil)))) (.cons rfl .nil) ?_
              exact jn_loop (fun a w hi => ⟨k + 1, (by first | omega | (simp; omega)), (⟨by omega, by rw [← p4, hd, firstL, if_neg (by rw [h13]; simp)]⟩), (Sub.inv ⟨(by repeat (first | exact SubS_nil | refine SubS_cons rfl (by first | rfl | (simp; done) | assumption) ?_)), (by repeat (first | exact SubH_nil | refine SubH_cons rfl (by first | rfl | (simp; done) | assumption) ?_))⟩ hi)⟩)
          · simp at h11
            have hin : firstL (fun x => confl x t.2.2.2[i]) (t.2.2.2.take i) 0 = (0, false) := by rw [← p4, List.drop_of_length_le (by omega)]; rfl
            refine j_exit (je_seq (je_loop (je_blk (jn_blk (jn_seq ?_)))))
            refine j_region ?_
            refine jg_adr _ rfl _ rfl rfl (op_move (.base rfl)) ?_
            refine jg_adr _ rfl _ rfl rfl (op_add (.base rfl) (.base rfl) (w64 (by omega))) ?_
            refine jg_adr _ rfl _ rfl rfl (op_assign (.base rfl)) ?_
            refine jg_nil ?_
            refine jn_keep [1, 2, 6] [2] (.cons rfl (.cons rfl (.cons rfl .nil))) (.cons rfl .nil) ?_
            exact jn_loop (fun a w hi => ⟨i + 1, (by first | omega | (simp; omega)), (⟨by omega, by rw [← p2, valF_at h6, if_neg (by rw [h8]; simp), hin]; rfl⟩), (Sub.inv ⟨(by repeat (first | exact SubS_nil | refine SubS_cons rfl (by first | rfl | (simp; done) | assumption) ?_)), (by repeat (first | exact SubH_nil | refine SubH_cons rfl (by first | rfl | (simp; done) | assumption) ?_))⟩ hi)⟩)
      · simp at h6
        refine j_exit (je_seq (je_loop (je_blk (jn_seq (j_seq ?_)))))
        refine j_region ?_
        refine jg_adr _ rfl _ rfl rfl (op_assign (.base rfl)) ?_
        refine jg_adr _ rfl _ rfl rfl (op_assign (.base rfl)) ?_
        refine jg_nil ?_
        refine jn_keep [4, 5] [] (.cons rfl (.cons rfl .nil)) .nil ?_
        refine jn_seq (j_ret ?_)
        exact jr_fin2 Try.results14 (res_tmp rfl) (res_tmp rfl) ⟨rfl, rfl⟩ (sv22_eq (by unfold valR; rw [if_neg (by omega), if_neg (by rw [h3]; simp), ← p2, show t.2.2.2.length - i = 0 by omega]; rfl))

end Go.Proofs.Ytcdkmhmlpjnfeaa
