import Derived.Test.YtgoggdaohdablaaGreatP23v
import Derived.Test.YtgoggdaohdablaaGreatTurns
import Derived.Test.YtgoggdaohdablaaGreatEng14
namespace Go.Proofs.YtgoggdaohdablaaGreat
open Go.Eng
set_option maxRecDepth 100000
set_option maxHeartbeats 4000000
set_option linter.unusedVariables false
set_option linter.unusedSimpArgs false


def isLit (op : Int) : Bool := decide (2 ≤ op ∧ op ≤ 6)
def isCmp (op : Int) : Bool := decide (19 ≤ op ∧ op ≤ 22)
def opA (e : List TNode) (at_ : Int) : TNode := e[((opsF e at_)[0]?.getD 0).toNat]?.getD (0, 0)
def opB (e : List TNode) (at_ : Int) : TNode := e[((opsF e at_)[1]?.getD 0).toNat]?.getD (0, 0)
def simpleF (e : List TNode) (at_ : Int) : Int × TNode × Bool :=
  if (opsF e at_).length ≠ 2 then (0, (0, 0), false) else if (opA e at_).1 = 7 ∧ isLit (opB e at_).1 = true then ((opA e at_).2, opB e at_, true)
  else if (opB e at_).1 = 7 ∧ isLit (opA e at_).1 = true then ((opB e at_).2, opA e at_, true) else (0, (0, 0), false)
def simpleR (e : List TNode) (at_ : Int) (op : Int) : TNode × TNode × Bool :=
  if isCmp op = false ∨ (opsF e at_).length ≠ 2 then ((0, 0), (0, 0), false) else if (opA e at_).1 = 7 ∧ isLit (opB e at_).1 = true then (opA e at_, opB e at_, true)
  else if (opB e at_).1 = 7 ∧ isLit (opA e at_).1 = true then (opB e at_, opA e at_, true) else ((0, 0), (0, 0), false)
def svS (R : Int × TNode × Bool) : SV := .tup3 (.raw (.int .i64 R.1)) (.tv rNode R.2.1) (.raw (.bool R.2.2))
theorem svS_eq {R : Int × TNode × Bool} {a : Int} {b : TNode} {c : Bool} (h : (a, b, c) = R) : SV.tup3 (.raw (.int .i64 a)) (SV.of rNode b) (.raw (.bool c)) = svS R := by subst h; rfl
def svR (R : TNode × TNode × Bool) : SV := .tup3 (.tv rNode R.1) (.tv rNode R.2.1) (.raw (.bool R.2.2))
theorem svR_eq {R : TNode × TNode × Bool} {a b : TNode} {c : Bool} (h : (a, b, c) = R) : SV.tup3 (SV.of rNode a) (SV.of rNode b) (.raw (.bool c)) = svR R := by subst h; rfl
theorem opd_bounds {R : List Int} : ∀ (n : Nat) (rs : List Int) (t : Int), chain R t rs → n ≤ rs.length → ∀ x ∈ opd R n t, 0 ≤ x ∧ x < t
  | 0, _, _, _, _, x, hx => by simp [opd] at hx
  | n + 1, [], _, _, h, _, _ => by simp at h
  | n + 1, s :: r, t, hc, h, x, hx => by
    rw [opd, hc.2.2.1, Option.getD_some] at hx
    have h1 := hc.1; have h2 := hc.2.1
    rcases List.mem_append.1 hx with hx | hx
    · have := opd_bounds n r s hc.2.2.2 (by simpa using h) x hx; omega
    · obtain rfl := List.mem_singleton.1 hx; omega
theorem ops_bounds (e : List TNode) (at_ : Int) : ∀ x ∈ opsF e at_, 0 ≤ x ∧ x < e.length := by
  intro x hx
  unfold opsF at hx
  split at hx
  · simp at hx
  · rename_i h
    have hk : at_.toNat < e.length := by omega
    obtain ⟨_, _, _, _, hops⟩ := structF_ok (e := e) (by omega)
    obtain ⟨h0, rs, hc, hl, _⟩ := hops at_.toNat hk
    rw [List.getElem?_eq_getElem hk, Option.getD_some] at hx
    have e1 : ((at_.toNat : Nat) : Int) = at_ := Int.toNat_of_nonneg (by omega)
    rw [e1] at hc
    have := opd_bounds _ rs at_ hc (by omega) x hx
    omega

theorem isLiteral_ok (d : TNode) : Ct Tryz.prog 14 [.tv rNode d] (.raw (.bool (isLit d.1))) := by
  refine ct_intro Tryz.func14 rfl rfl Tryz.ntmps14 rfl rfl ?_
  intro w0 ok0
  refine j_seq ?_
  refine j_region ?_
  refine jg_os _ rfl (op_box (.tv (.base rfl)) rfl rfl rfl) ?_
  refine jg_adr _ rfl _ rfl rfl (op_assign (.base rfl)) ?_
  refine jg_nil ?_
  refine jn_keep [1] [1] (.cons rfl .nil) (.cons rfl .nil) ?_
  refine jn_seq (j_seq (j_seq ?_))
  refine j_region ?_
  refine jg_adr _ rfl _ rfl rfl (op_ofield fld56_0 (.base rfl)) ?_
  refine jg_adr _ rfl _ rfl rfl (op_oload ty3 (.base rfl) rfl rfl ln56_0) ?_
  refine jg_nil ?_
  refine jn_keep [4] [] (.cons rfl .nil) .nil ?_
  refine jn_seq (j_block (j_seq (j_seq ?_)))
  refine j_region ?_
  refine jg_adr _ rfl _ rfl rfl (op_eql (.base rfl) (.base rfl)) ?_
  refine jg_adr _ rfl _ rfl rfl (op_assign (.base rfl)) ?_
  refine jg_nil ?_
  refine jn_keep [4, 5] [] (.cons rfl (.cons rfl .nil)) .nil ?_
  refine jn_seq ?_
  refine j_cond rfl (fun h2 => ?_) (fun h2 => ?_)
  · have g2 := h2; try simp at h2
    refine j_skip (jn_seq ?_)
    refine j_cond_t rfl g2 (j_seq ?_)
    refine j_region ?_
    refine jg_adr _ rfl _ rfl rfl (op_assign (.base rfl)) ?_
    refine jg_nil ?_
    refine jn_keep [2] [] (.cons rfl .nil) .nil ?_
    refine jn_seq (j_ret (jr_blk (jr_seq ?_)))
    exact jr_fin1 Tryz.results14 (res_tmp rfl) rfl (rb (by subst_vars; first | rfl | (simp [isLit]; done) | (simp [isLit, *]; done) | (rw [Bool.eq_iff_iff]; simp [isLit, *]; omega) | (rw [Bool.eq_iff_iff]; simp [isLit]; omega) | (unfold isLit; simp; omega)))
  · have g2 := h2; try simp at h2
    refine j_seq ?_
    refine j_region ?_
    refine jg_adr _ rfl _ rfl rfl (op_eql (.base rfl) (.base rfl)) ?_
    refine jg_adr _ rfl _ rfl rfl (op_assign (.base rfl)) ?_
    refine jg_nil ?_
    refine jn_keep [4, 5] [] (.cons rfl (.cons rfl .nil)) .nil ?_
    refine jn_seq ?_
    refine j_cond rfl (fun h3 => ?_) (fun h3 => ?_)
    · have g3 := h3; try simp at h3
      refine j_skip (jn_seq ?_)
      refine j_cond_t rfl g3 (j_seq ?_)
      refine j_region ?_
      refine jg_adr _ rfl _ rfl rfl (op_assign (.base rfl)) ?_
      refine jg_nil ?_
      refine jn_keep [2] [] (.cons rfl .nil) .nil ?_
      refine jn_seq (j_ret (jr_blk (jr_seq ?_)))
      exact jr_fin1 Tryz.results14 (res_tmp rfl) rfl (rb (by subst_vars; first | rfl | (simp [isLit]; done) | (simp [isLit, *]; done) | (rw [Bool.eq_iff_iff]; simp [isLit, *]; omega) | (rw [Bool.eq_iff_iff]; simp [isLit]; omega) | (unfold isLit; simp; omega)))
    · have g3 := h3; try simp at h3
      refine j_seq ?_
      refine j_region ?_
      refine jg_adr _ rfl _ rfl rfl (op_eql (.base rfl) (.base rfl)) ?_
      refine jg_adr _ rfl _ rfl rfl (op_assign (.base rfl)) ?_
      refine jg_nil ?_
      refine jn_keep [4, 5] [] (.cons rfl (.cons rfl .nil)) .nil ?_
      refine jn_seq ?_
      refine j_cond rfl (fun h4 => ?_) (fun h4 => ?_)
      · have g4 := h4; try simp at h4
        refine j_skip (jn_seq ?_)
        refine j_cond_t rfl g4 (j_seq ?_)
        refine j_region ?_
        refine jg_adr _ rfl _ rfl rfl (op_assign (.base rfl)) ?_
        refine jg_nil ?_
        refine jn_keep [2] [] (.cons rfl .nil) .nil ?_
        refine jn_seq (j_ret (jr_blk (jr_seq ?_)))
        exact jr_fin1 Tryz.results14 (res_tmp rfl) rfl (rb (by subst_vars; first | rfl | (simp [isLit]; done) | (simp [isLit, *]; done) | (rw [Bool.eq_iff_iff]; simp [isLit, *]; omega) | (rw [Bool.eq_iff_iff]; simp [isLit]; omega) | (unfold isLit; simp; omega)))
      · have g4 := h4; try simp at h4
        refine j_seq ?_
        refine j_region ?_
        refine jg_adr _ rfl _ rfl rfl (op_eql (.base rfl) (.base rfl)) ?_
        refine jg_adr _ rfl _ rfl rfl (op_assign (.base rfl)) ?_
        refine jg_nil ?_
        refine jn_keep [4, 5] [] (.cons rfl (.cons rfl .nil)) .nil ?_
        refine jn_seq ?_
        refine j_cond rfl (fun h5 => ?_) (fun h5 => ?_)
        · have g5 := h5; try simp at h5
          refine j_skip (jn_seq ?_)
          refine j_cond_t rfl g5 (j_seq ?_)
          refine j_region ?_
          refine jg_adr _ rfl _ rfl rfl (op_assign (.base rfl)) ?_
          refine jg_nil ?_
          refine jn_keep [2] [] (.cons rfl .nil) .nil ?_
          refine jn_seq (j_ret (jr_blk (jr_seq ?_)))
          exact jr_fin1 Tryz.results14 (res_tmp rfl) rfl (rb (by subst_vars; first | rfl | (simp [isLit]; done) | (simp [isLit, *]; done) | (rw [Bool.eq_iff_iff]; simp [isLit, *]; omega) | (rw [Bool.eq_iff_iff]; simp [isLit]; omega) | (unfold isLit; simp; omega)))
        · have g5 := h5; try simp at h5
          refine j_region ?_
          refine jg_adr _ rfl _ rfl rfl (op_eql (.base rfl) (.base rfl)) ?_
          refine jg_adr _ rfl _ rfl rfl (op_assign (.base rfl)) ?_
          refine jg_nil ?_
          refine jn_keep [5] [] (.cons rfl .nil) .nil ?_
          refine jn_seq ?_
          refine j_cond rfl (fun h6 => ?_) (fun h6 => ?_)
          · have g6 := h6; try simp at h6
            refine j_seq ?_
            refine j_region ?_
            refine jg_adr _ rfl _ rfl rfl (op_assign (.base rfl)) ?_
            refine jg_nil ?_
            refine jn_keep [2] [] (.cons rfl .nil) .nil ?_
            refine jn_seq (j_ret (jr_blk (jr_seq ?_)))
            exact jr_fin1 Tryz.results14 (res_tmp rfl) rfl (rb (by subst_vars; first | rfl | (simp [isLit]; done) | (simp [isLit, *]; done) | (rw [Bool.eq_iff_iff]; simp [isLit, *]; omega) | (rw [Bool.eq_iff_iff]; simp [isLit]; omega) | (unfold isLit; simp; omega)))
          · have g6 := h6; try simp at h6
            refine j_skip (jn_blk (jn_seq (j_seq ?_)))
            refine j_region ?_
            refine jg_adr _ rfl _ rfl rfl (op_assign (.base rfl)) ?_
            refine jg_nil ?_
            refine jn_keep [2] [] (.cons rfl .nil) .nil ?_
            refine jn_seq (j_ret ?_)
            exact jr_fin1 Tryz.results14 (res_tmp rfl) rfl (rb (by subst_vars; first | rfl | (simp [isLit]; done) | (simp [isLit, *]; done) | (rw [Bool.eq_iff_iff]; simp [isLit, *]; omega) | (rw [Bool.eq_iff_iff]; simp [isLit]; omega) | (unfold isLit; simp; omega)))

theorem isComparison_ok (d : TNode) : Ct Tryz.prog 15 [.tv rNode d] (.raw (.bool (isCmp d.1))) := by
  refine ct_intro Tryz.func15 rfl rfl Tryz.ntmps15 rfl rfl ?_
  intro w0 ok0
  refine j_seq ?_
  refine j_region ?_
  refine jg_os _ rfl (op_box (.tv (.base rfl)) rfl rfl rfl) ?_
  refine jg_adr _ rfl _ rfl rfl (op_assign (.base rfl)) ?_
  refine jg_nil ?_
  refine jn_keep [1] [1] (.cons rfl .nil) (.cons rfl .nil) ?_
  refine jn_seq (j_seq (j_seq ?_))
  refine j_region ?_
  refine jg_adr _ rfl _ rfl rfl (op_ofield fld56_0 (.base rfl)) ?_
  refine jg_adr _ rfl _ rfl rfl (op_oload ty3 (.base rfl) rfl rfl ln56_0) ?_
  refine jg_nil ?_
  refine jn_keep [4] [] (.cons rfl .nil) .nil ?_
  refine jn_seq (j_block (j_seq (j_seq ?_)))
  refine j_region ?_
  refine jg_adr _ rfl _ rfl rfl (op_eql (.base rfl) (.base rfl)) ?_
  refine jg_adr _ rfl _ rfl rfl (op_assign (.base rfl)) ?_
  refine jg_nil ?_
  refine jn_keep [4, 5] [] (.cons rfl (.cons rfl .nil)) .nil ?_
  refine jn_seq ?_
  refine j_cond rfl (fun h2 => ?_) (fun h2 => ?_)
  · have g2 := h2; try simp at h2
    refine j_skip (jn_seq ?_)
    refine j_cond_t rfl g2 (j_seq ?_)
    refine j_region ?_
    refine jg_adr _ rfl _ rfl rfl (op_assign (.base rfl)) ?_
    refine jg_nil ?_
    refine jn_keep [2] [] (.cons rfl .nil) .nil ?_
    refine jn_seq (j_ret (jr_blk (jr_seq ?_)))
    exact jr_fin1 Tryz.results15 (res_tmp rfl) rfl (rb (by subst_vars; first | rfl | (simp [isCmp]; done) | (simp [isCmp, *]; done) | (rw [Bool.eq_iff_iff]; simp [isCmp, *]; omega) | (rw [Bool.eq_iff_iff]; simp [isCmp]; omega) | (unfold isCmp; simp; omega)))
  · have g2 := h2; try simp at h2
    refine j_seq ?_
    refine j_region ?_
    refine jg_adr _ rfl _ rfl rfl (op_eql (.base rfl) (.base rfl)) ?_
    refine jg_adr _ rfl _ rfl rfl (op_assign (.base rfl)) ?_
    refine jg_nil ?_
    refine jn_keep [4, 5] [] (.cons rfl (.cons rfl .nil)) .nil ?_
    refine jn_seq ?_
    refine j_cond rfl (fun h3 => ?_) (fun h3 => ?_)
    · have g3 := h3; try simp at h3
      refine j_skip (jn_seq ?_)
      refine j_cond_t rfl g3 (j_seq ?_)
      refine j_region ?_
      refine jg_adr _ rfl _ rfl rfl (op_assign (.base rfl)) ?_
      refine jg_nil ?_
      refine jn_keep [2] [] (.cons rfl .nil) .nil ?_
      refine jn_seq (j_ret (jr_blk (jr_seq ?_)))
      exact jr_fin1 Tryz.results15 (res_tmp rfl) rfl (rb (by subst_vars; first | rfl | (simp [isCmp]; done) | (simp [isCmp, *]; done) | (rw [Bool.eq_iff_iff]; simp [isCmp, *]; omega) | (rw [Bool.eq_iff_iff]; simp [isCmp]; omega) | (unfold isCmp; simp; omega)))
    · have g3 := h3; try simp at h3
      refine j_seq ?_
      refine j_region ?_
      refine jg_adr _ rfl _ rfl rfl (op_eql (.base rfl) (.base rfl)) ?_
      refine jg_adr _ rfl _ rfl rfl (op_assign (.base rfl)) ?_
      refine jg_nil ?_
      refine jn_keep [4, 5] [] (.cons rfl (.cons rfl .nil)) .nil ?_
      refine jn_seq ?_
      refine j_cond rfl (fun h4 => ?_) (fun h4 => ?_)
      · have g4 := h4; try simp at h4
        refine j_skip (jn_seq ?_)
        refine j_cond_t rfl g4 (j_seq ?_)
        refine j_region ?_
        refine jg_adr _ rfl _ rfl rfl (op_assign (.base rfl)) ?_
        refine jg_nil ?_
        refine jn_keep [2] [] (.cons rfl .nil) .nil ?_
        refine jn_seq (j_ret (jr_blk (jr_seq ?_)))
        exact jr_fin1 Tryz.results15 (res_tmp rfl) rfl (rb (by subst_vars; first | rfl | (simp [isCmp]; done) | (simp [isCmp, *]; done) | (rw [Bool.eq_iff_iff]; simp [isCmp, *]; omega) | (rw [Bool.eq_iff_iff]; simp [isCmp]; omega) | (unfold isCmp; simp; omega)))
      · have g4 := h4; try simp at h4
        refine j_region ?_
        refine jg_adr _ rfl _ rfl rfl (op_eql (.base rfl) (.base rfl)) ?_
        refine jg_adr _ rfl _ rfl rfl (op_assign (.base rfl)) ?_
        refine jg_nil ?_
        refine jn_keep [5] [] (.cons rfl .nil) .nil ?_
        refine jn_seq ?_
        refine j_cond rfl (fun h5 => ?_) (fun h5 => ?_)
        · have g5 := h5; try simp at h5
          refine j_seq ?_
          refine j_region ?_
          refine jg_adr _ rfl _ rfl rfl (op_assign (.base rfl)) ?_
          refine jg_nil ?_
          refine jn_keep [2] [] (.cons rfl .nil) .nil ?_
          refine jn_seq (j_ret (jr_blk (jr_seq ?_)))
          exact jr_fin1 Tryz.results15 (res_tmp rfl) rfl (rb (by subst_vars; first | rfl | (simp [isCmp]; done) | (simp [isCmp, *]; done) | (rw [Bool.eq_iff_iff]; simp [isCmp, *]; omega) | (rw [Bool.eq_iff_iff]; simp [isCmp]; omega) | (unfold isCmp; simp; omega)))
        · have g5 := h5; try simp at h5
          refine j_skip (jn_blk (jn_seq (j_seq ?_)))
          refine j_region ?_
          refine jg_adr _ rfl _ rfl rfl (op_assign (.base rfl)) ?_
          refine jg_nil ?_
          refine jn_keep [2] [] (.cons rfl .nil) .nil ?_
          refine jn_seq (j_ret ?_)
          exact jr_fin1 Tryz.results15 (res_tmp rfl) rfl (rb (by subst_vars; first | rfl | (simp [isCmp]; done) | (simp [isCmp, *]; done) | (rw [Bool.eq_iff_iff]; simp [isCmp, *]; omega) | (rw [Bool.eq_iff_iff]; simp [isCmp]; omega) | (unfold isCmp; simp; omega)))



theorem simpleC_ok (e : List TNode) (at_ : Int) : Ct Tryz.prog 16 [.tv (rSlice rNode) e, .raw (.int .i64 at_)] (svS (simpleF e at_)) := by
  refine ct_intro Tryz.func16 rfl rfl Tryz.ntmps16 rfl rfl ?_
  intro w0 ok0
  refine j_seq ?_
  refine j_region ?_
  refine jg_adr _ rfl _ rfl rfl (op_assign (.base rfl)) ?_
  refine jg_os _ rfl (op_alloc _ z56 rfl rfl rfl) ?_
  refine jg_adr _ rfl _ rfl rfl (op_assign (.base rfl)) ?_
  refine jg_nil ?_
  refine jn_keep [0, 1, 5] [5] (.cons rfl (.cons rfl (.cons rfl .nil))) (.cons rfl .nil) ?_
  refine jn_seq (j_seq ?_)
  refine j_region ?_
  refine jg_adr _ rfl _ rfl rfl (op_move (.base rfl)) ?_
  refine jg_adr _ rfl _ rfl rfl (op_move (.base rfl)) ?_
  refine jg_adr _ rfl _ rfl rfl (op_call (operands_ok _ _) (.cons (.base rfl) (.cons (.base rfl) .nil)) rfl rfl) ?_
  refine jg_adr _ rfl _ rfl rfl (op_assign (.base rfl)) ?_
  refine jg_nil ?_
  refine jn_keep [0, 5, 7] [5] (.cons rfl (.cons rfl (.cons rfl .nil))) (.cons rfl .nil) ?_
  refine jn_seq (j_seq (j_seq ?_))
  refine j_region ?_
  refine jg_adr _ rfl _ rfl rfl (op_move (.base rfl)) ?_
  refine jg_adr _ rfl _ rfl rfl (op_len Tryz.underlying28 (.base rfl)) ?_
  refine jg_adr _ rfl _ rfl rfl (op_neq (.base rfl) (.base rfl)) ?_
  refine jg_nil ?_
  refine jn_keep [0, 5, 7, 15] [5] (.cons rfl (.cons rfl (.cons rfl (.cons rfl .nil)))) (.cons rfl .nil) ?_
  refine jn_seq ?_
  refine j_cond rfl (fun h2 => ?_) (fun h2 => ?_)
  · try simp at h2
    refine j_seq ?_
    refine j_region ?_
    refine jg_adr _ rfl _ rfl rfl (op_build z56 rfl pl56 .nil) ?_
    refine jg_adr _ rfl _ rfl rfl (op_assign (.base rfl)) ?_
    refine jg_os _ rfl (op_ostore ty56 (.base rfl) rfl rfl (Lens.id _) (.tv (.base rfl))) ?_
    refine jg_adr _ rfl _ rfl rfl (op_assign (.base rfl)) ?_
    refine jg_nil ?_
    refine jn_keep [4, 5, 6] [5] (.cons rfl (.cons rfl (.cons rfl .nil))) (.cons rfl .nil) ?_
    refine jn_seq (j_ret (jr_seq ?_))
    exact jr_fin3 Tryz.results16 (res_tmp rfl) (res_cell ty56 rfl rfl rfl (Lens.id rNode)) (res_tmp rfl) ⟨rfl, rfl, rfl⟩ (svS_eq (by unfold simpleF; rw [if_pos (by omega)]))
  · try simp at h2
    refine j_skip (jn_seq (j_seq ?_))
    have hl2 : (opsF e at_).length = 2 := by omega
    have hb := ops_bounds e at_
    have hb0 := hb _ (List.getElem_mem (show 0 < (opsF e at_).length by omega))
    have hb1 := hb _ (List.getElem_mem (show 1 < (opsF e at_).length by omega))
    have i0 := (Int.toNat_of_nonneg hb0.1).symm
    have i1 := (Int.toNat_of_nonneg hb1.1).symm
    have eA : opA e at_ = e[((opsF e at_)[0]'(by omega)).toNat]'(by omega) := by unfold opA; rw [List.getElem?_eq_getElem (show 0 < (opsF e at_).length by omega), Option.getD_some, List.getElem?_eq_getElem (by omega), Option.getD_some]
    have eB : opB e at_ = e[((opsF e at_)[1]'(by omega)).toNat]'(by omega) := by unfold opB; rw [List.getElem?_eq_getElem (show 1 < (opsF e at_).length by omega), Option.getD_some, List.getElem?_eq_getElem (by omega), Option.getD_some]
    refine j_drawE mo (by kernel_rfl) (
      AE.cons _ _ _ rfl (gh_ga [] (ga_adr rfl rfl rfl (op_move (.base rfl))) (by kernel_rfl)) (
      AE.cons _ _ _ rfl (gh_ga [] (ga_adr rfl rfl rfl (op_move (.base rfl))) (by kernel_rfl)) (
      AE.cons _ _ _ rfl (gh_ga [] (ga_adr rfl rfl rfl (op_index Tryz.underlying28 ty3 (.base rfl) (.base rfl) rfl (List.getElem?_eq_getElem (by first | omega | (simp; done) | (simp; omega) | (simp at hg; omega))))) (by kernel_rfl)) (
      AE.cons _ _ _ rfl (gh_ga [] (ga_adr rfl rfl rfl (op_load ty3 (.base rfl))) (by kernel_rfl)) (
      AE.cons _ _ _ rfl (gh_ga [] (ga_adr rfl rfl rfl (op_index Tryz.underlying22 ty56 (.base rfl) (.base rfl) i0 (List.getElem?_eq_getElem (by first | omega | (simp; done) | (simp; omega) | (simp at hg; omega))))) (by kernel_rfl)) (
      AE.cons _ _ _ rfl (gh_ga [] (ga_adr rfl rfl rfl (op_load ty56 (.base rfl))) (by kernel_rfl)) (
      AE.cons _ _ _ rfl (gh_ga [] (ga_adr rfl rfl rfl (op_move (.base rfl))) (by kernel_rfl)) (
      AE.cons _ _ _ rfl (gh_ga [] (ga_adr rfl rfl rfl (op_move (.base rfl))) (by kernel_rfl)) (
      AE.cons _ _ _ rfl (gh_ga [] (ga_adr rfl rfl rfl (op_index Tryz.underlying28 ty3 (.base rfl) (.base rfl) rfl (List.getElem?_eq_getElem (by first | omega | (simp; done) | (simp; omega) | (simp at hg; omega))))) (by kernel_rfl)) (
      AE.cons _ _ _ rfl (gh_ga [] (ga_adr rfl rfl rfl (op_load ty3 (.base rfl))) (by kernel_rfl)) (
      AE.cons _ _ _ rfl (gh_ga [] (ga_adr rfl rfl rfl (op_index Tryz.underlying22 ty56 (.base rfl) (.base rfl) i1 (List.getElem?_eq_getElem (by first | omega | (simp; done) | (simp; omega) | (simp at hg; omega))))) (by kernel_rfl)) (
      AE.cons _ _ _ rfl (gh_ga [] (ga_adr rfl rfl rfl (op_load ty56 (.base rfl))) (by kernel_rfl)) (
      AE.cons _ _ _ rfl (gh_alloc _ z56 rfl) (
      AE.cons _ _ _ rfl (gh_alloc _ z56 rfl) (
      AE.cons _ _ _ rfl (gh_store ty56 (.base rfl) rfl rfl (Lens.id _) (.tv (.base rfl))) (
      AE.cons _ _ _ rfl (gh_store ty56 (.base rfl) rfl rfl (Lens.id _) (.tv (.base rfl))) (
      AE.nil))))))))))))))))) (by kernel_rfl) ?_
    refine jn_keep [5, 8, 9] [5, 8, 9] (.cons rfl (.cons rfl (.cons rfl .nil))) (.cons rfl (.cons rfl (.cons rfl .nil))) ?_
    refine jn_seq (j_seq (j_block (j_seq ?_)))
    refine j_region ?_
    refine jg_adr _ rfl _ rfl rfl (op_ofield fld56_0 (.base rfl)) ?_
    refine jg_adr _ rfl _ rfl rfl (op_oload ty3 (.base rfl) rfl rfl ln56_0) ?_
    refine jg_adr _ rfl _ rfl rfl (op_eql (.base rfl) (.base rfl)) ?_
    refine jg_adr _ rfl _ rfl rfl (op_move (.base rfl)) ?_
    refine jg_gd _ _ _ _ _ _ rfl rfl rfl rfl rfl (fun hg => op_oload ty56 (.base rfl) rfl rfl (Lens.id _)) ?_
    refine jg_gd _ _ _ _ _ _ rfl rfl rfl rfl rfl (fun hg => op_call (isLiteral_ok _) (.cons (.gd rfl hg) .nil) rfl rfl) ?_
    refine jg_adr _ rfl _ rfl rfl (op_pick_and (.base rfl) (.base rfl) rfl (by intro h; first | (rw [h]; rfl) | (rw [hg, h]; rfl) | (rw [h, hg]; rfl) | simp_all)) ?_
    refine jg_adr _ rfl _ rfl rfl (op_assign (.base rfl)) ?_
    refine jg_nil ?_
    refine jn_keep [5, 8, 9, 29] [5, 8, 9] (.cons rfl (.cons rfl (.cons rfl (.cons rfl .nil)))) (.cons rfl (.cons rfl (.cons rfl .nil))) ?_
    refine jn_seq ?_
    refine j_cond rfl (fun h5 => ?_) (fun h5 => ?_)
    · have k5 : (opA e at_).1 = 7 ∧ isLit (opB e at_).1 = true := by rw [eA, eB]; simpa using h5
      refine j_seq ?_
      refine j_drawE mo (by kernel_rfl) (
        AE.cons _ _ _ rfl (gh_ga [8] (ga_adr rfl rfl rfl (op_ofield fld56_1 (.base rfl))) (by kernel_rfl)) (
        AE.cons _ _ _ rfl (gh_ga [8] (ga_adr rfl rfl rfl (op_oload ty3 (.base rfl) rfl rfl ln56_1)) (by kernel_rfl)) (
        AE.cons _ _ _ rfl (gh_ga [9] (ga_adr rfl rfl rfl (op_oload ty56 (.base rfl) rfl rfl (Lens.id _))) (by kernel_rfl)) (
        AE.cons _ _ _ rfl (gh_ga [] (ga_adr rfl rfl rfl (op_assign (.base rfl))) (by kernel_rfl)) (
        AE.cons _ _ _ rfl (gh_store ty56 (.base rfl) rfl rfl (Lens.id _) (.tv (.base rfl))) (
        AE.cons _ _ _ rfl (gh_ga [] (ga_adr rfl rfl rfl (op_assign (.base rfl))) (by kernel_rfl)) (
        AE.nil))))))) (by kernel_rfl) ?_
      refine jn_keep [4, 5, 6] [5] (.cons rfl (.cons rfl (.cons rfl .nil))) (.cons rfl .nil) ?_
      refine jn_seq (j_ret (jr_blk (jr_seq ?_)))
      exact jr_fin3 Tryz.results16 (res_tmp rfl) (res_cell ty56 rfl rfl rfl (Lens.id rNode)) (res_tmp rfl) ⟨rfl, rfl, rfl⟩ (svS_eq (by unfold simpleF; rw [if_neg (by omega), if_pos k5, eA, eB]))
    · have k5 : ¬ ((opA e at_).1 = 7 ∧ isLit (opB e at_).1 = true) := by rw [eA, eB]; simpa using h5
      refine j_seq ?_
      refine j_region ?_
      refine jg_adr _ rfl _ rfl rfl (op_ofield fld56_0 (.base rfl)) ?_
      refine jg_adr _ rfl _ rfl rfl (op_oload ty3 (.base rfl) rfl rfl ln56_0) ?_
      refine jg_adr _ rfl _ rfl rfl (op_eql (.base rfl) (.base rfl)) ?_
      refine jg_adr _ rfl _ rfl rfl (op_move (.base rfl)) ?_
      refine jg_gd _ _ _ _ _ _ rfl rfl rfl rfl rfl (fun hg => op_oload ty56 (.base rfl) rfl rfl (Lens.id _)) ?_
      refine jg_gd _ _ _ _ _ _ rfl rfl rfl rfl rfl (fun hg => op_call (isLiteral_ok _) (.cons (.gd rfl hg) .nil) rfl rfl) ?_
      refine jg_adr _ rfl _ rfl rfl (op_pick_and (.base rfl) (.base rfl) rfl (by intro h; first | (rw [h]; rfl) | (rw [hg, h]; rfl) | (rw [h, hg]; rfl) | simp_all)) ?_
      refine jg_adr _ rfl _ rfl rfl (op_assign (.base rfl)) ?_
      refine jg_nil ?_
      refine jn_keep [5, 8, 9, 40] [5, 8, 9] (.cons rfl (.cons rfl (.cons rfl (.cons rfl .nil)))) (.cons rfl (.cons rfl (.cons rfl .nil))) ?_
      refine jn_seq ?_
      refine j_cond rfl (fun h7 => ?_) (fun h7 => ?_)
      · have k7 : (opB e at_).1 = 7 ∧ isLit (opA e at_).1 = true := by rw [eA, eB]; simpa using h7
        refine j_seq ?_
        refine j_drawE mo (by kernel_rfl) (
          AE.cons _ _ _ rfl (gh_ga [9] (ga_adr rfl rfl rfl (op_ofield fld56_1 (.base rfl))) (by kernel_rfl)) (
          AE.cons _ _ _ rfl (gh_ga [9] (ga_adr rfl rfl rfl (op_oload ty3 (.base rfl) rfl rfl ln56_1)) (by kernel_rfl)) (
          AE.cons _ _ _ rfl (gh_ga [8] (ga_adr rfl rfl rfl (op_oload ty56 (.base rfl) rfl rfl (Lens.id _))) (by kernel_rfl)) (
          AE.cons _ _ _ rfl (gh_ga [] (ga_adr rfl rfl rfl (op_assign (.base rfl))) (by kernel_rfl)) (
          AE.cons _ _ _ rfl (gh_store ty56 (.base rfl) rfl rfl (Lens.id _) (.tv (.base rfl))) (
          AE.cons _ _ _ rfl (gh_ga [] (ga_adr rfl rfl rfl (op_assign (.base rfl))) (by kernel_rfl)) (
          AE.nil))))))) (by kernel_rfl) ?_
        refine jn_keep [4, 5, 6] [5] (.cons rfl (.cons rfl (.cons rfl .nil))) (.cons rfl .nil) ?_
        refine jn_seq (j_ret (jr_blk (jr_seq ?_)))
        exact jr_fin3 Tryz.results16 (res_tmp rfl) (res_cell ty56 rfl rfl rfl (Lens.id rNode)) (res_tmp rfl) ⟨rfl, rfl, rfl⟩ (svS_eq (by unfold simpleF; rw [if_neg (by omega), if_neg k5, if_pos k7, eA, eB]))
      · have k7 : ¬ ((opB e at_).1 = 7 ∧ isLit (opA e at_).1 = true) := by rw [eA, eB]; simpa using h7
        refine j_skip (jn_blk (jn_seq (j_seq ?_)))
        refine j_region ?_
        refine jg_adr _ rfl _ rfl rfl (op_build z56 rfl pl56 .nil) ?_
        refine jg_adr _ rfl _ rfl rfl (op_assign (.base rfl)) ?_
        refine jg_os _ rfl (op_ostore ty56 (.base rfl) rfl rfl (Lens.id _) (.tv (.base rfl))) ?_
        refine jg_adr _ rfl _ rfl rfl (op_assign (.base rfl)) ?_
        refine jg_nil ?_
        refine jn_keep [4, 5, 6] [5] (.cons rfl (.cons rfl (.cons rfl .nil))) (.cons rfl .nil) ?_
        refine jn_seq (j_ret ?_)
        exact jr_fin3 Tryz.results16 (res_tmp rfl) (res_cell ty56 rfl rfl rfl (Lens.id rNode)) (res_tmp rfl) ⟨rfl, rfl, rfl⟩ (svS_eq (by unfold simpleF; rw [if_neg (by omega), if_neg k5, if_neg k7]))


end Go.Proofs.YtgoggdaohdablaaGreat
