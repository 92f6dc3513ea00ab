import Derived.Test.YtcdkmhmlpjnfeaaP12a
import Derived.Test.YtcdkmhmlpjnfeaaP05d
namespace Go.Proofs.Ytcdkmhmlpjnfeaa
open Go.Eng
set_option maxRecDepth 100000
set_option maxHeartbeats 4000000
set_option linter.unusedVariables false
set_option linter.unusedSimpArgs false

def svRB (p : Rg × Bool) : SV := .tup2 (.tv rDateRange p.1) (.raw (.bool p.2))
theorem svRB_eq {p : Rg × Bool} {a : Rg} {b : Bool} (h : (a, b) = p) : SV.tup2 (SV.of rDateRange a) (.raw (.bool b)) = svRB p := by subst h; rfl
theorem inter_valid {a b : Rg} (h : ¬ (validR a = true ∧ validR b = true)) : interR a b = ((0, 0), false) := by
  unfold interR
  rw [if_pos]
  simp only [hasD]
  cases ha : validR a <;> cases hb : validR b <;> simp_all
theorem inter_v {a b : Rg} (ha : validR a = true) (hb : validR b = true) : interR a b = if (if b.2 < a.2 then b.2 else a.2) ≤ (if a.1 < b.1 then b.1 else a.1) then ((0, 0), false) else ((if a.1 < b.1 then b.1 else a.1, if b.2 < a.2 then b.2 else a.2), true) := by
  unfold interR
  by_cases h : hasD a = false ∨ hasD b = false
  · rw [if_pos h, if_pos]
    have a1 := validR_iff.1 ha; have b1 := validR_iff.1 hb
    rcases h with h | h
    · have : ¬ a.1 < a.2 := fun q => by rw [hasD_iff.2 (by omega)] at h; cases h
      split <;> split <;> omega
    · have : ¬ b.1 < b.2 := fun q => by rw [hasD_iff.2 (by omega)] at h; cases h
      split <;> split <;> omega
  · rw [if_neg h]

theorem dvalid_ok (r : Rg) : Ct Try.prog 33 [.tv rDateRange r] (.raw (.bool (validR r))) := by
  refine ct_intro Try.func33 rfl rfl Try.ntmps33 rfl rfl ?_
  intro w0 ok0
  refine j_seq ?_
  refine j_region ?_
  refine jg_os _ rfl (op_box (.tv (.base rfl)) rfl rfl rfl) ?_
  refine jg_adr _ rfl _ rfl rfl (op_assign (.base rfl)) ?_
  refine jg_nil ?_
  refine jn_keep [1] [1] (.cons rfl .nil) (.cons rfl .nil) ?_
  refine jn_seq (j_seq ?_)
  refine j_region ?_
  refine jg_adr _ rfl _ rfl rfl (op_ofield fld48_0 (.base rfl)) ?_
  refine jg_adr _ rfl _ rfl rfl (op_oload ty3 (.base rfl) rfl rfl ln48_0) ?_
  refine jg_adr _ rfl _ rfl rfl (op_leq (.base rfl) (.base rfl)) ?_
  refine jg_adr _ rfl _ rfl rfl (op_move (.base rfl)) ?_
  refine jg_gd _ _ _ _ _ _ rfl rfl rfl rfl rfl (fun hg => op_ofield fld48_0 (.base rfl)) ?_
  refine jg_gd _ _ _ _ _ _ rfl rfl rfl rfl rfl (fun hg => op_oload ty3 (.gd rfl hg) rfl rfl ln48_0) ?_
  refine jg_gd _ _ _ _ _ _ rfl rfl rfl rfl rfl (fun hg => op_ofield fld48_1 (.base rfl)) ?_
  refine jg_gd _ _ _ _ _ _ rfl rfl rfl rfl rfl (fun hg => op_oload ty3 (.gd rfl hg) rfl rfl ln48_1) ?_
  refine jg_gd _ _ _ _ _ _ rfl rfl rfl rfl rfl (fun hg => op_leq (.gd rfl hg) (.gd rfl hg)) ?_
  refine jg_adr _ rfl _ rfl rfl (op_pick_and (.base rfl) (.base rfl) rfl (by intro h; first | (rw [h]; rfl) | (rw [hg, h]; rfl) | (rw [h, hg]; rfl) | simp_all)) ?_
  refine jg_adr _ rfl _ rfl rfl (op_move (.base rfl)) ?_
  refine jg_gd _ _ _ _ _ _ rfl rfl rfl rfl rfl (fun hg => op_ofield fld48_1 (.base rfl)) ?_
  refine jg_gd _ _ _ _ _ _ rfl rfl rfl rfl rfl (fun hg => op_oload ty3 (.gd rfl hg) rfl rfl ln48_1) ?_
  refine jg_gd _ _ _ _ _ _ rfl rfl rfl rfl rfl (fun hg => op_leq (.gd rfl hg) (.base rfl)) ?_
  refine jg_adr _ rfl _ rfl rfl (op_pick_and (.base rfl) (.base rfl) rfl (by intro h; first | (rw [h]; rfl) | (rw [hg, h]; rfl) | (rw [h, hg]; rfl) | simp_all)) ?_
  refine jg_adr _ rfl _ rfl rfl (op_assign (.base rfl)) ?_
  refine jg_nil ?_
  refine jn_keep [2] [] (.cons rfl .nil) .nil ?_
  refine jn_seq (j_ret ?_)
  exact jr_fin1 Try.results33 (res_tmp rfl) rfl (rb (by first | rfl | (simp [validR]; done) | (rw [Bool.eq_iff_iff]; simp [validR]; omega)))

theorem drvalid_ok (r : Rg) : Ct Try.prog 67 [.tv rDateRange r] (.raw (.bool (validR r))) := by
  refine ct_intro Try.func67 rfl rfl Try.ntmps67 rfl rfl ?_
  intro w0 ok0
  refine j_seq ?_
  refine j_region ?_
  refine jg_os _ rfl (op_box (.tv (.base rfl)) rfl rfl rfl) ?_
  refine jg_adr _ rfl _ rfl rfl (op_assign (.base rfl)) ?_
  refine jg_nil ?_
  refine jn_keep [1] [1] (.cons rfl .nil) (.cons rfl .nil) ?_
  refine jn_seq (j_seq ?_)
  refine j_region ?_
  refine jg_adr _ rfl _ rfl rfl (op_ofield fld48_0 (.base rfl)) ?_
  refine jg_adr _ rfl _ rfl rfl (op_oload ty3 (.base rfl) rfl rfl ln48_0) ?_
  refine jg_adr _ rfl _ rfl rfl (op_geq (.base rfl) (.base rfl)) ?_
  refine jg_adr _ rfl _ rfl rfl (op_move (.base rfl)) ?_
  refine jg_gd _ _ _ _ _ _ rfl rfl rfl rfl rfl (fun hg => op_ofield fld48_0 (.base rfl)) ?_
  refine jg_gd _ _ _ _ _ _ rfl rfl rfl rfl rfl (fun hg => op_oload ty3 (.gd rfl hg) rfl rfl ln48_0) ?_
  refine jg_gd _ _ _ _ _ _ rfl rfl rfl rfl rfl (fun hg => op_ofield fld48_1 (.base rfl)) ?_
  refine jg_gd _ _ _ _ _ _ rfl rfl rfl rfl rfl (fun hg => op_oload ty3 (.gd rfl hg) rfl rfl ln48_1) ?_
  refine jg_gd _ _ _ _ _ _ rfl rfl rfl rfl rfl (fun hg => op_leq (.gd rfl hg) (.gd rfl hg)) ?_
  refine jg_adr _ rfl _ rfl rfl (op_pick_and (.base rfl) (.base rfl) rfl (by intro h; first | (rw [h]; rfl) | (rw [hg, h]; rfl) | (rw [h, hg]; rfl) | simp_all)) ?_
  refine jg_adr _ rfl _ rfl rfl (op_move (.base rfl)) ?_
  refine jg_gd _ _ _ _ _ _ rfl rfl rfl rfl rfl (fun hg => op_ofield fld48_1 (.base rfl)) ?_
  refine jg_gd _ _ _ _ _ _ rfl rfl rfl rfl rfl (fun hg => op_oload ty3 (.gd rfl hg) rfl rfl ln48_1) ?_
  refine jg_gd _ _ _ _ _ _ rfl rfl rfl rfl rfl (fun hg => op_leq (.gd rfl hg) (.base rfl)) ?_
  refine jg_adr _ rfl _ rfl rfl (op_pick_and (.base rfl) (.base rfl) rfl (by intro h; first | (rw [h]; rfl) | (rw [hg, h]; rfl) | (rw [h, hg]; rfl) | simp_all)) ?_
  refine jg_adr _ rfl _ rfl rfl (op_assign (.base rfl)) ?_
  refine jg_nil ?_
  refine jn_keep [2] [] (.cons rfl .nil) .nil ?_
  refine jn_seq (j_ret ?_)
  exact jr_fin1 Try.results67 (res_tmp rfl) rfl (rb (by first | rfl | (simp [validR]; done) | (rw [Bool.eq_iff_iff]; simp [validR]; omega)))

theorem dhas_ok (r : Rg) : Ct Try.prog 77 [.tv rDateRange r] (.raw (.bool (hasD r))) := by
  refine ct_intro Try.func77 rfl rfl Try.ntmps77 rfl rfl ?_
  intro w0 ok0
  refine j_seq ?_
  refine j_region ?_
  refine jg_os _ rfl (op_box (.tv (.base rfl)) rfl rfl rfl) ?_
  refine jg_adr _ rfl _ rfl rfl (op_assign (.base rfl)) ?_
  refine jg_nil ?_
  refine jn_keep [1] [1] (.cons rfl .nil) (.cons rfl .nil) ?_
  refine jn_seq (j_seq ?_)
  refine j_region ?_
  refine jg_adr _ rfl _ rfl rfl (op_oload ty48 (.base rfl) rfl rfl (Lens.id _)) ?_
  refine jg_adr _ rfl _ rfl rfl (op_call (dvalid_ok _) (.cons (.base rfl) .nil) rfl rfl) ?_
  refine jg_adr _ rfl _ rfl rfl (op_move (.base rfl)) ?_
  refine jg_gd _ _ _ _ _ _ rfl rfl rfl rfl rfl (fun hg => op_ofield fld48_0 (.base rfl)) ?_
  refine jg_gd _ _ _ _ _ _ rfl rfl rfl rfl rfl (fun hg => op_oload ty3 (.gd rfl hg) rfl rfl ln48_0) ?_
  refine jg_gd _ _ _ _ _ _ rfl rfl rfl rfl rfl (fun hg => op_ofield fld48_1 (.base rfl)) ?_
  refine jg_gd _ _ _ _ _ _ rfl rfl rfl rfl rfl (fun hg => op_oload ty3 (.gd rfl hg) rfl rfl ln48_1) ?_
  refine jg_gd _ _ _ _ _ _ rfl rfl rfl rfl rfl (fun hg => op_lss (.gd rfl hg) (.gd rfl hg)) ?_
  refine jg_adr _ rfl _ rfl rfl (op_pick_and (.base rfl) (.base rfl) rfl (by intro h; first | (rw [h]; rfl) | (rw [hg, h]; rfl) | (rw [h, hg]; rfl) | simp_all)) ?_
  refine jg_adr _ rfl _ rfl rfl (op_assign (.base rfl)) ?_
  refine jg_nil ?_
  refine jn_keep [2] [] (.cons rfl .nil) .nil ?_
  refine jn_seq (j_ret ?_)
  exact jr_fin1 Try.results77 (res_tmp rfl) rfl (rb (by first | rfl | (simp [hasD]; done) | (rw [Bool.eq_iff_iff]; simp [hasD]; omega)))

theorem drne_ok (r : Rg) : Ct Try.prog 80 [.tv rDateRange r] (.raw (.bool (hasD r))) := by
  refine ct_intro Try.func80 rfl rfl Try.ntmps80 rfl rfl ?_
  intro w0 ok0
  refine j_seq ?_
  refine j_region ?_
  refine jg_os _ rfl (op_box (.tv (.base rfl)) rfl rfl rfl) ?_
  refine jg_adr _ rfl _ rfl rfl (op_assign (.base rfl)) ?_
  refine jg_nil ?_
  refine jn_keep [1] [1] (.cons rfl .nil) (.cons rfl .nil) ?_
  refine jn_seq (j_seq ?_)
  refine j_region ?_
  refine jg_adr _ rfl _ rfl rfl (op_oload ty48 (.base rfl) rfl rfl (Lens.id _)) ?_
  refine jg_adr _ rfl _ rfl rfl (op_call (drvalid_ok _) (.cons (.base rfl) .nil) rfl rfl) ?_
  refine jg_adr _ rfl _ rfl rfl (op_move (.base rfl)) ?_
  refine jg_gd _ _ _ _ _ _ rfl rfl rfl rfl rfl (fun hg => op_ofield fld48_0 (.base rfl)) ?_
  refine jg_gd _ _ _ _ _ _ rfl rfl rfl rfl rfl (fun hg => op_oload ty3 (.gd rfl hg) rfl rfl ln48_0) ?_
  refine jg_gd _ _ _ _ _ _ rfl rfl rfl rfl rfl (fun hg => op_ofield fld48_1 (.base rfl)) ?_
  refine jg_gd _ _ _ _ _ _ rfl rfl rfl rfl rfl (fun hg => op_oload ty3 (.gd rfl hg) rfl rfl ln48_1) ?_
  refine jg_gd _ _ _ _ _ _ rfl rfl rfl rfl rfl (fun hg => op_lss (.gd rfl hg) (.gd rfl hg)) ?_
  refine jg_adr _ rfl _ rfl rfl (op_pick_and (.base rfl) (.base rfl) rfl (by intro h; first | (rw [h]; rfl) | (rw [hg, h]; rfl) | (rw [h, hg]; rfl) | simp_all)) ?_
  refine jg_adr _ rfl _ rfl rfl (op_assign (.base rfl)) ?_
  refine jg_nil ?_
  refine jn_keep [2] [] (.cons rfl .nil) .nil ?_
  refine jn_seq (j_ret ?_)
  exact jr_fin1 Try.results80 (res_tmp rfl) rfl (rb (by first | rfl | (simp [hasD]; done) | (rw [Bool.eq_iff_iff]; simp [hasD]; omega)))

theorem dcont_ok (r : Rg) (d : Int) : Ct Try.prog 41 [.tv rDateRange r, .raw (.int .i64 d)] (.raw (.bool (contR r d))) := by
  refine ct_intro Try.func41 rfl rfl Try.ntmps41 rfl rfl ?_
  intro w0 ok0
  refine j_seq ?_
  refine j_region ?_
  refine jg_os _ rfl (op_box (.tv (.base rfl)) rfl rfl rfl) ?_
  refine jg_adr _ rfl _ rfl rfl (op_assign (.base rfl)) ?_
  refine jg_nil ?_
  refine jn_keep [1, 2] [2] (.cons rfl (.cons rfl .nil)) (.cons rfl .nil) ?_
  refine jn_seq (j_seq ?_)
  refine j_region ?_
  refine jg_adr _ rfl _ rfl rfl (op_oload ty48 (.base rfl) rfl rfl (Lens.id _)) ?_
  refine jg_adr _ rfl _ rfl rfl (op_call (dvalid_ok _) (.cons (.base rfl) .nil) rfl rfl) ?_
  refine jg_adr _ rfl _ rfl rfl (op_move (.base rfl)) ?_
  refine jg_gd _ _ _ _ _ _ rfl rfl rfl rfl rfl (fun hg => op_ofield fld48_0 (.base rfl)) ?_
  refine jg_gd _ _ _ _ _ _ rfl rfl rfl rfl rfl (fun hg => op_oload ty3 (.gd rfl hg) rfl rfl ln48_0) ?_
  refine jg_gd _ _ _ _ _ _ rfl rfl rfl rfl rfl (fun hg => op_move (.base rfl)) ?_
  refine jg_gd _ _ _ _ _ _ rfl rfl rfl rfl rfl (fun hg => op_leq (.gd rfl hg) (.gd rfl hg)) ?_
  refine jg_adr _ rfl _ rfl rfl (op_pick_and (.base rfl) (.base rfl) rfl (by intro h; first | (rw [h]; rfl) | (rw [hg, h]; rfl) | (rw [h, hg]; rfl) | simp_all)) ?_
  refine jg_adr _ rfl _ rfl rfl (op_move (.base rfl)) ?_
  refine jg_gd _ _ _ _ _ _ rfl rfl rfl rfl rfl (fun hg => op_move (.base rfl)) ?_
  refine jg_gd _ _ _ _ _ _ rfl rfl rfl rfl rfl (fun hg => op_ofield fld48_1 (.base rfl)) ?_
  refine jg_gd _ _ _ _ _ _ rfl rfl rfl rfl rfl (fun hg => op_oload ty3 (.gd rfl hg) rfl rfl ln48_1) ?_
  refine jg_gd _ _ _ _ _ _ rfl rfl rfl rfl rfl (fun hg => op_lss (.gd rfl hg) (.gd rfl hg)) ?_
  refine jg_adr _ rfl _ rfl rfl (op_pick_and (.base rfl) (.base rfl) rfl (by intro h; first | (rw [h]; rfl) | (rw [hg, h]; rfl) | (rw [h, hg]; rfl) | simp_all)) ?_
  refine jg_adr _ rfl _ rfl rfl (op_assign (.base rfl)) ?_
  refine jg_nil ?_
  refine jn_keep [4] [] (.cons rfl .nil) .nil ?_
  refine jn_seq (j_ret ?_)
  exact jr_fin1 Try.results41 (res_tmp rfl) rfl (rb (by first | rfl | (simp [contR]; done) | (rw [Bool.eq_iff_iff]; simp [contR]; omega)))

theorem drcont_ok (r : Rg) (d : Int) : Ct Try.prog 46 [.tv rDateRange r, .raw (.int .i64 d)] (.raw (.bool (contR r d))) := by
  refine ct_intro Try.func46 rfl rfl Try.ntmps46 rfl rfl ?_
  intro w0 ok0
  refine j_seq ?_
  refine j_region ?_
  refine jg_os _ rfl (op_box (.tv (.base rfl)) rfl rfl rfl) ?_
  refine jg_adr _ rfl _ rfl rfl (op_assign (.base rfl)) ?_
  refine jg_nil ?_
  refine jn_keep [1, 2] [2] (.cons rfl (.cons rfl .nil)) (.cons rfl .nil) ?_
  refine jn_seq (j_seq ?_)
  refine j_region ?_
  refine jg_adr _ rfl _ rfl rfl (op_oload ty48 (.base rfl) rfl rfl (Lens.id _)) ?_
  refine jg_adr _ rfl _ rfl rfl (op_call (drvalid_ok _) (.cons (.base rfl) .nil) rfl rfl) ?_
  refine jg_adr _ rfl _ rfl rfl (op_move (.base rfl)) ?_
  refine jg_gd _ _ _ _ _ _ rfl rfl rfl rfl rfl (fun hg => op_ofield fld48_0 (.base rfl)) ?_
  refine jg_gd _ _ _ _ _ _ rfl rfl rfl rfl rfl (fun hg => op_oload ty3 (.gd rfl hg) rfl rfl ln48_0) ?_
  refine jg_gd _ _ _ _ _ _ rfl rfl rfl rfl rfl (fun hg => op_move (.base rfl)) ?_
  refine jg_gd _ _ _ _ _ _ rfl rfl rfl rfl rfl (fun hg => op_leq (.gd rfl hg) (.gd rfl hg)) ?_
  refine jg_adr _ rfl _ rfl rfl (op_pick_and (.base rfl) (.base rfl) rfl (by intro h; first | (rw [h]; rfl) | (rw [hg, h]; rfl) | (rw [h, hg]; rfl) | simp_all)) ?_
  refine jg_adr _ rfl _ rfl rfl (op_move (.base rfl)) ?_
  refine jg_gd _ _ _ _ _ _ rfl rfl rfl rfl rfl (fun hg => op_move (.base rfl)) ?_
  refine jg_gd _ _ _ _ _ _ rfl rfl rfl rfl rfl (fun hg => op_ofield fld48_1 (.base rfl)) ?_
  refine jg_gd _ _ _ _ _ _ rfl rfl rfl rfl rfl (fun hg => op_oload ty3 (.gd rfl hg) rfl rfl ln48_1) ?_
  refine jg_gd _ _ _ _ _ _ rfl rfl rfl rfl rfl (fun hg => op_lss (.gd rfl hg) (.gd rfl hg)) ?_
  refine jg_adr _ rfl _ rfl rfl (op_pick_and (.base rfl) (.base rfl) rfl (by intro h; first | (rw [h]; rfl) | (rw [hg, h]; rfl) | (rw [h, hg]; rfl) | simp_all)) ?_
  refine jg_adr _ rfl _ rfl rfl (op_assign (.base rfl)) ?_
  refine jg_nil ?_
  refine jn_keep [4] [] (.cons rfl .nil) .nil ?_
  refine jn_seq (j_ret ?_)
  exact jr_fin1 Try.results46 (res_tmp rfl) rfl (rb (by first | rfl | (simp [contR]; done) | (rw [Bool.eq_iff_iff]; simp [contR]; omega)))

theorem dinter_ok (a b : Rg) : Ct Try.prog 66 [.tv rDateRange a, .tv rDateRange b] (svRB (interR a b)) := by
  refine ct_intro Try.func66 rfl rfl Try.ntmps66 rfl rfl ?_
  intro w0 ok0
  refine j_seq ?_
  refine j_region ?_
  refine jg_os _ rfl (op_box (.tv (.base rfl)) rfl rfl rfl) ?_
  refine jg_os _ rfl (op_box (.tv (.base rfl)) rfl rfl rfl) ?_
  refine jg_os _ rfl (op_alloc _ z48 rfl rfl rfl) ?_
  refine jg_adr _ rfl _ rfl rfl (op_assign (.base rfl)) ?_
  refine jg_nil ?_
  refine jn_keep [2, 3, 4] [2, 3, 4] (.cons rfl (.cons rfl (.cons rfl .nil))) (.cons rfl (.cons rfl (.cons rfl .nil))) ?_
  refine jn_seq (j_seq (j_seq ?_))
  refine j_region ?_
  refine jg_adr _ rfl _ rfl rfl (op_oload ty48 (.base rfl) rfl rfl (Lens.id _)) ?_
  refine jg_adr _ rfl _ rfl rfl (op_call (dhas_ok _) (.cons (.base rfl) .nil) rfl rfl) ?_
  refine jg_adr _ rfl _ rfl rfl (op_not (.base rfl)) ?_
  refine jg_adr _ rfl _ rfl rfl (op_move (.base rfl)) ?_
  refine jg_gd _ _ _ _ _ _ rfl rfl rfl rfl rfl (fun hg => op_oload ty48 (.base rfl) rfl rfl (Lens.id _)) ?_
  refine jg_gd _ _ _ _ _ _ rfl rfl rfl rfl rfl (fun hg => op_call (dhas_ok _) (.cons (.gd rfl hg) .nil) rfl rfl) ?_
  refine jg_gd _ _ _ _ _ _ rfl rfl rfl rfl rfl (fun hg => op_not (.gd rfl hg)) ?_
  refine jg_adr _ rfl _ rfl rfl (op_pick_or (.base rfl) (.base rfl) rfl (by intro h; first | (rw [h]; rfl) | (rw [hg, h]; rfl) | (rw [h, hg]; rfl) | simp_all)) ?_
  refine jg_nil ?_
  refine jn_keep [2, 3, 4, 14] [2, 3, 4] (.cons rfl (.cons rfl (.cons rfl (.cons rfl .nil)))) (.cons rfl (.cons rfl (.cons rfl .nil))) ?_
  refine jn_seq ?_
  refine j_cond rfl (fun h1 => ?_) (fun h1 => ?_)
  · have k1 : hasD a = false ∨ hasD b = false := by simpa using h1
    refine j_seq ?_
    refine j_region ?_
    refine jg_adr _ rfl _ rfl rfl (op_build z48 rfl pl48 .nil) ?_
    refine jg_os _ rfl (op_ostore ty48 (.base rfl) rfl rfl (Lens.id _) (.tv (.base rfl))) ?_
    refine jg_adr _ rfl _ rfl rfl (op_assign (.base rfl)) ?_
    refine jg_nil ?_
    refine jn_keep [4, 5] [4] (.cons rfl (.cons rfl .nil)) (.cons rfl .nil) ?_
    refine jn_seq (j_ret (jr_seq ?_))
    exact jr_fin2 Try.results66 (res_cell ty48 rfl rfl rfl (Lens.id rDateRange)) (res_tmp rfl) ⟨rfl, rfl⟩ (svRB_eq (by unfold interR; rw [if_pos k1]))
  · have k1 : ¬ (hasD a = false ∨ hasD b = false) := by simpa using h1
    refine j_skip (jn_seq (j_seq ?_))
    refine j_region ?_
    refine jg_adr _ rfl _ rfl rfl (op_ofield fld48_0 (.base rfl)) ?_
    refine jg_adr _ rfl _ rfl rfl (op_oload ty3 (.base rfl) rfl rfl ln48_0) ?_
    refine jg_adr _ rfl _ rfl rfl (op_ofield fld48_0 (.base rfl)) ?_
    refine jg_adr _ rfl _ rfl rfl (op_oload ty3 (.base rfl) rfl rfl ln48_0) ?_
    refine jg_adr _ rfl _ rfl rfl (op_max (.base rfl) (.base rfl)) ?_
    refine jg_adr _ rfl _ rfl rfl (op_ofield fld48_1 (.base rfl)) ?_
    refine jg_adr _ rfl _ rfl rfl (op_oload ty3 (.base rfl) rfl rfl ln48_1) ?_
    refine jg_adr _ rfl _ rfl rfl (op_ofield fld48_1 (.base rfl)) ?_
    refine jg_adr _ rfl _ rfl rfl (op_oload ty3 (.base rfl) rfl rfl ln48_1) ?_
    refine jg_adr _ rfl _ rfl rfl (op_min (.base rfl) (.base rfl)) ?_
    refine jg_adr _ rfl _ rfl rfl (op_build z48 rfl pl48 (.cons (rt' := (rInt .i64)) rfl ln48_0 (.raw (.base rfl) rfl) (.cons (rt' := (rInt .i64)) rfl ln48_1 (.raw (.base rfl) rfl) .nil))) ?_
    refine jg_os _ rfl (op_alloc _ z48 rfl rfl rfl) ?_
    refine jg_os _ rfl (op_ostore ty48 (.base rfl) rfl rfl (Lens.id _) (.tv (.base rfl))) ?_
    refine jg_nil ?_
    refine jn_keep [4, 6] [4, 6] (.cons rfl (.cons rfl .nil)) (.cons rfl (.cons rfl .nil)) ?_
    refine jn_seq (j_seq (j_seq ?_))
    refine j_region ?_
    refine jg_adr _ rfl _ rfl rfl (op_ofield fld48_0 (.base rfl)) ?_
    refine jg_adr _ rfl _ rfl rfl (op_oload ty3 (.base rfl) rfl rfl ln48_0) ?_
    refine jg_adr _ rfl _ rfl rfl (op_ofield fld48_1 (.base rfl)) ?_
    refine jg_adr _ rfl _ rfl rfl (op_oload ty3 (.base rfl) rfl rfl ln48_1) ?_
    refine jg_adr _ rfl _ rfl rfl (op_geq (.base rfl) (.base rfl)) ?_
    refine jg_nil ?_
    refine jn_keep [4, 6, 31] [4, 6] (.cons rfl (.cons rfl (.cons rfl .nil))) (.cons rfl (.cons rfl .nil)) ?_
    refine jn_seq ?_
    refine j_cond rfl (fun h4 => ?_) (fun h4 => ?_)
    · try simp at h4
      refine j_seq ?_
      refine j_region ?_
      refine jg_adr _ rfl _ rfl rfl (op_build z48 rfl pl48 .nil) ?_
      refine jg_os _ rfl (op_ostore ty48 (.base rfl) rfl rfl (Lens.id _) (.tv (.base rfl))) ?_
      refine jg_adr _ rfl _ rfl rfl (op_assign (.base rfl)) ?_
      refine jg_nil ?_
      refine jn_keep [4, 5] [4] (.cons rfl (.cons rfl .nil)) (.cons rfl .nil) ?_
      refine jn_seq (j_ret (jr_seq ?_))
      exact jr_fin2 Try.results66 (res_cell ty48 rfl rfl rfl (Lens.id rDateRange)) (res_tmp rfl) ⟨rfl, rfl⟩ (svRB_eq (by unfold interR; rw [if_neg k1, if_pos (by simpa using h4)]))
    · try simp at h4
      refine j_skip (jn_seq (j_seq ?_))
      refine j_region ?_
      refine jg_adr _ rfl _ rfl rfl (op_oload ty48 (.base rfl) rfl rfl (Lens.id _)) ?_
      refine jg_os _ rfl (op_ostore ty48 (.base rfl) rfl rfl (Lens.id _) (.tv (.base rfl))) ?_
      refine jg_adr _ rfl _ rfl rfl (op_assign (.base rfl)) ?_
      refine jg_nil ?_
      refine jn_keep [4, 5] [4] (.cons rfl (.cons rfl .nil)) (.cons rfl .nil) ?_
      refine jn_seq (j_ret ?_)
      exact jr_fin2 Try.results66 (res_cell ty48 rfl rfl rfl (Lens.id rDateRange)) (res_tmp rfl) ⟨rfl, rfl⟩ (svRB_eq (by unfold interR; rw [if_neg k1, if_neg (Int.not_le.2 h4)]))

theorem drinter_ok (a b : Rg) : Ct Try.prog 69 [.tv rDateRange a, .tv rDateRange b] (svRB (interR a b)) := by
  refine ct_intro Try.func69 rfl rfl Try.ntmps69 rfl rfl ?_
  intro w0 ok0
  refine j_seq ?_
  refine j_region ?_
  refine jg_os _ rfl (op_box (.tv (.base rfl)) rfl rfl rfl) ?_
  refine jg_os _ rfl (op_box (.tv (.base rfl)) rfl rfl rfl) ?_
  refine jg_os _ rfl (op_alloc _ z48 rfl rfl rfl) ?_
  refine jg_adr _ rfl _ rfl rfl (op_assign (.base rfl)) ?_
  refine jg_nil ?_
  refine jn_keep [2, 3, 4] [2, 3, 4] (.cons rfl (.cons rfl (.cons rfl .nil))) (.cons rfl (.cons rfl (.cons rfl .nil))) ?_
  refine jn_seq (j_seq (j_seq ?_))
  refine j_region ?_
  refine jg_adr _ rfl _ rfl rfl (op_oload ty48 (.base rfl) rfl rfl (Lens.id _)) ?_
  refine jg_adr _ rfl _ rfl rfl (op_call (drvalid_ok _) (.cons (.base rfl) .nil) rfl rfl) ?_
  refine jg_adr _ rfl _ rfl rfl (op_not (.base rfl)) ?_
  refine jg_adr _ rfl _ rfl rfl (op_move (.base rfl)) ?_
  refine jg_gd _ _ _ _ _ _ rfl rfl rfl rfl rfl (fun hg => op_oload ty48 (.base rfl) rfl rfl (Lens.id _)) ?_
  refine jg_gd _ _ _ _ _ _ rfl rfl rfl rfl rfl (fun hg => op_call (drvalid_ok _) (.cons (.gd rfl hg) .nil) rfl rfl) ?_
  refine jg_gd _ _ _ _ _ _ rfl rfl rfl rfl rfl (fun hg => op_not (.gd rfl hg)) ?_
  refine jg_adr _ rfl _ rfl rfl (op_pick_or (.base rfl) (.base rfl) rfl (by intro h; first | (rw [h]; rfl) | (rw [hg, h]; rfl) | (rw [h, hg]; rfl) | simp_all)) ?_
  refine jg_nil ?_
  refine jn_keep [2, 3, 4, 14] [2, 3, 4] (.cons rfl (.cons rfl (.cons rfl (.cons rfl .nil)))) (.cons rfl (.cons rfl (.cons rfl .nil))) ?_
  refine jn_seq ?_
  refine j_cond rfl (fun h1 => ?_) (fun h1 => ?_)
  · have k1 : ¬ (validR a = true ∧ validR b = true) := by intro q; simp [q.1, q.2] at h1
    refine j_seq ?_
    refine j_region ?_
    refine jg_adr _ rfl _ rfl rfl (op_build z48 rfl pl48 .nil) ?_
    refine jg_os _ rfl (op_ostore ty48 (.base rfl) rfl rfl (Lens.id _) (.tv (.base rfl))) ?_
    refine jg_adr _ rfl _ rfl rfl (op_assign (.base rfl)) ?_
    refine jg_nil ?_
    refine jn_keep [4, 5] [4] (.cons rfl (.cons rfl .nil)) (.cons rfl .nil) ?_
    refine jn_seq (j_ret (jr_seq ?_))
    exact jr_fin2 Try.results69 (res_cell ty48 rfl rfl rfl (Lens.id rDateRange)) (res_tmp rfl) ⟨rfl, rfl⟩ (svRB_eq (by rw [inter_valid k1]))
  · have k1 : validR a = true ∧ validR b = true := by simpa using h1
    refine j_skip (jn_seq (j_seq ?_))
    refine j_region ?_
    refine jg_adr _ rfl _ rfl rfl (op_ofield fld48_0 (.base rfl)) ?_
    refine jg_adr _ rfl _ rfl rfl (op_oload ty3 (.base rfl) rfl rfl ln48_0) ?_
    refine jg_adr _ rfl _ rfl rfl (op_ofield fld48_0 (.base rfl)) ?_
    refine jg_adr _ rfl _ rfl rfl (op_oload ty3 (.base rfl) rfl rfl ln48_0) ?_
    refine jg_adr _ rfl _ rfl rfl (op_max (.base rfl) (.base rfl)) ?_
    refine jg_adr _ rfl _ rfl rfl (op_ofield fld48_1 (.base rfl)) ?_
    refine jg_adr _ rfl _ rfl rfl (op_oload ty3 (.base rfl) rfl rfl ln48_1) ?_
    refine jg_adr _ rfl _ rfl rfl (op_ofield fld48_1 (.base rfl)) ?_
    refine jg_adr _ rfl _ rfl rfl (op_oload ty3 (.base rfl) rfl rfl ln48_1) ?_
    refine jg_adr _ rfl _ rfl rfl (op_min (.base rfl) (.base rfl)) ?_
    refine jg_adr _ rfl _ rfl rfl (op_build z48 rfl pl48 (.cons (rt' := (rInt .i64)) rfl ln48_0 (.raw (.base rfl) rfl) (.cons (rt' := (rInt .i64)) rfl ln48_1 (.raw (.base rfl) rfl) .nil))) ?_
    refine jg_os _ rfl (op_alloc _ z48 rfl rfl rfl) ?_
    refine jg_os _ rfl (op_ostore ty48 (.base rfl) rfl rfl (Lens.id _) (.tv (.base rfl))) ?_
    refine jg_nil ?_
    refine jn_keep [4, 6] [4, 6] (.cons rfl (.cons rfl .nil)) (.cons rfl (.cons rfl .nil)) ?_
    refine jn_seq (j_seq (j_seq ?_))
    refine j_region ?_
    refine jg_adr _ rfl _ rfl rfl (op_ofield fld48_0 (.base rfl)) ?_
    refine jg_adr _ rfl _ rfl rfl (op_oload ty3 (.base rfl) rfl rfl ln48_0) ?_
    refine jg_adr _ rfl _ rfl rfl (op_ofield fld48_1 (.base rfl)) ?_
    refine jg_adr _ rfl _ rfl rfl (op_oload ty3 (.base rfl) rfl rfl ln48_1) ?_
    refine jg_adr _ rfl _ rfl rfl (op_geq (.base rfl) (.base rfl)) ?_
    refine jg_nil ?_
    refine jn_keep [4, 6, 31] [4, 6] (.cons rfl (.cons rfl (.cons rfl .nil))) (.cons rfl (.cons rfl .nil)) ?_
    refine jn_seq ?_
    refine j_cond rfl (fun h4 => ?_) (fun h4 => ?_)
    · try simp at h4
      refine j_seq ?_
      refine j_region ?_
      refine jg_adr _ rfl _ rfl rfl (op_build z48 rfl pl48 .nil) ?_
      refine jg_os _ rfl (op_ostore ty48 (.base rfl) rfl rfl (Lens.id _) (.tv (.base rfl))) ?_
      refine jg_adr _ rfl _ rfl rfl (op_assign (.base rfl)) ?_
      refine jg_nil ?_
      refine jn_keep [4, 5] [4] (.cons rfl (.cons rfl .nil)) (.cons rfl .nil) ?_
      refine jn_seq (j_ret (jr_seq ?_))
      exact jr_fin2 Try.results69 (res_cell ty48 rfl rfl rfl (Lens.id rDateRange)) (res_tmp rfl) ⟨rfl, rfl⟩ (svRB_eq (by rw [inter_v k1.1 k1.2, if_pos (by simpa using h4)]))
    · try simp at h4
      refine j_skip (jn_seq (j_seq ?_))
      refine j_region ?_
      refine jg_adr _ rfl _ rfl rfl (op_oload ty48 (.base rfl) rfl rfl (Lens.id _)) ?_
      refine jg_os _ rfl (op_ostore ty48 (.base rfl) rfl rfl (Lens.id _) (.tv (.base rfl))) ?_
      refine jg_adr _ rfl _ rfl rfl (op_assign (.base rfl)) ?_
      refine jg_nil ?_
      refine jn_keep [4, 5] [4] (.cons rfl (.cons rfl .nil)) (.cons rfl .nil) ?_
      refine jn_seq (j_ret ?_)
      exact jr_fin2 Try.results69 (res_cell ty48 rfl rfl rfl (Lens.id rDateRange)) (res_tmp rfl) ⟨rfl, rfl⟩ (svRB_eq (by rw [inter_v k1.1 k1.2, if_neg (Int.not_le.2 h4)]))


def confl (a b : TRow) : Bool := (interR a.1 b.1).2 && decide ((if a.2.1 < b.2.1 then b.2.1 else a.2.1) < (if b.2.2.1 < a.2.2.1 then b.2.2.1 else a.2.2.1))
def matchR (date key : Int) (x : TRow) : Bool := contR x.1 date && decide (x.2.1 ≤ key) && decide (key < x.2.2.1)
def firstL (f : TRow → Bool) : List TRow → Nat → Int × Bool
  | [], _ => (0, false)
  | x :: l, k => if f x = true then ((k : Int), true) else firstL f l (k + 1)
def svIB (p : Int × Bool) : SV := .tup2 (.raw (.int .i64 p.1)) (.raw (.bool p.2))
theorem svIB_eq {p : Int × Bool} {a : Int} {b : Bool} (h : (a, b) = p) : SV.tup2 (.raw (.int .i64 a)) (.raw (.bool b)) = svIB p := by subst h; rfl
def svIIB (p : Int × Int × Bool) : SV := .tup3 (.raw (.int .i64 p.1)) (.raw (.int .i64 p.2.1)) (.raw (.bool p.2.2))
theorem svIIB_eq {p : Int × Int × Bool} {a b : Int} {c : Bool} (h : (a, b, c) = p) : SV.tup3 (.raw (.int .i64 a)) (.raw (.int .i64 b)) (.raw (.bool c)) = svIIB p := by subst h; rfl

theorem conflict_ok (a b : TRow) : Ct Try.prog 36 [.tv rRow a, .tv rRow b] (.raw (.bool (confl a b))) := by
  refine ct_intro Try.func36 rfl rfl Try.ntmps36 rfl rfl ?_
  intro w0 ok0
  refine j_seq ?_
  refine j_region ?_
  refine jg_os _ rfl (op_box (.tv (.base rfl)) rfl rfl rfl) ?_
  refine jg_os _ rfl (op_box (.tv (.base rfl)) rfl rfl rfl) ?_
  refine jg_adr _ rfl _ rfl rfl (op_assign (.base rfl)) ?_
  refine jg_nil ?_
  refine jn_keep [2, 3] [2, 3] (.cons rfl (.cons rfl .nil)) (.cons rfl (.cons rfl .nil)) ?_
  refine jn_seq (j_seq ?_)
  refine j_region ?_
  refine jg_adr _ rfl _ rfl rfl (op_ofield fld50_0 (.base rfl)) ?_
  refine jg_adr _ rfl _ rfl rfl (op_oload ty48 (.base rfl) rfl rfl ln50_0) ?_
  refine jg_adr _ rfl _ rfl rfl (op_ofield fld50_0 (.base rfl)) ?_
  refine jg_adr _ rfl _ rfl rfl (op_oload ty48 (.base rfl) rfl rfl ln50_0) ?_
  refine jg_adr _ rfl _ rfl rfl (op_call (dinter_ok _ _) (.cons (.base rfl) (.cons (.base rfl) .nil)) rfl rfl) ?_
  refine jg_adr _ rfl _ rfl rfl (op_move (.base rfl)) ?_
  refine jg_adr _ rfl _ rfl rfl (op_ext20 (.base rfl)) ?_
  refine jg_adr _ rfl _ rfl rfl (op_ext21 (.base rfl)) ?_
  refine jg_os _ rfl (op_alloc _ z48 rfl rfl rfl) ?_
  refine jg_os _ rfl (op_ostore ty48 (.base rfl) rfl rfl (Lens.id _) (.tv (.base rfl))) ?_
  refine jg_adr _ rfl _ rfl rfl (op_assign (.base rfl)) ?_
  refine jg_nil ?_
  refine jn_keep [2, 3, 6] [2, 3] (.cons rfl (.cons rfl (.cons rfl .nil))) (.cons rfl (.cons rfl .nil)) ?_
  refine jn_seq (j_seq ?_)
  refine j_region ?_
  refine jg_adr _ rfl _ rfl rfl (op_move (.base rfl)) ?_
  refine jg_adr _ rfl _ rfl rfl (op_move (.base rfl)) ?_
  refine jg_gd _ _ _ _ _ _ rfl rfl rfl rfl rfl (fun hg => op_ofield fld50_1 (.base rfl)) ?_
  refine jg_gd _ _ _ _ _ _ rfl rfl rfl rfl rfl (fun hg => op_oload ty3 (.gd rfl hg) rfl rfl ln50_1) ?_
  refine jg_gd _ _ _ _ _ _ rfl rfl rfl rfl rfl (fun hg => op_ofield fld50_1 (.base rfl)) ?_
  refine jg_gd _ _ _ _ _ _ rfl rfl rfl rfl rfl (fun hg => op_oload ty3 (.gd rfl hg) rfl rfl ln50_1) ?_
  refine jg_gd _ _ _ _ _ _ rfl rfl rfl rfl rfl (fun hg => op_max (.gd rfl hg) (.gd rfl hg)) ?_
  refine jg_gd _ _ _ _ _ _ rfl rfl rfl rfl rfl (fun hg => op_ofield fld50_2 (.base rfl)) ?_
  refine jg_gd _ _ _ _ _ _ rfl rfl rfl rfl rfl (fun hg => op_oload ty3 (.gd rfl hg) rfl rfl ln50_2) ?_
  refine jg_gd _ _ _ _ _ _ rfl rfl rfl rfl rfl (fun hg => op_ofield fld50_2 (.base rfl)) ?_
  refine jg_gd _ _ _ _ _ _ rfl rfl rfl rfl rfl (fun hg => op_oload ty3 (.gd rfl hg) rfl rfl ln50_2) ?_
  refine jg_gd _ _ _ _ _ _ rfl rfl rfl rfl rfl (fun hg => op_min (.gd rfl hg) (.gd rfl hg)) ?_
  refine jg_gd _ _ _ _ _ _ rfl rfl rfl rfl rfl (fun hg => op_lss (.gd rfl hg) (.gd rfl hg)) ?_
  refine jg_adr _ rfl _ rfl rfl (op_pick_and (.base rfl) (.base rfl) rfl (by intro h; first | (rw [h]; rfl) | (rw [hg, h]; rfl) | (rw [h, hg]; rfl) | simp_all)) ?_
  refine jg_adr _ rfl _ rfl rfl (op_assign (.base rfl)) ?_
  refine jg_nil ?_
  refine jn_keep [4] [] (.cons rfl .nil) .nil ?_
  refine jn_seq (j_ret ?_)
  exact jr_fin1 Try.results36 (res_tmp rfl) rfl (rb (by first | rfl | (unfold confl; rfl) | (simp [confl]; done)))

theorem rconflict_ok (a b : TRow) : Ct Try.prog 39 [.tv rRow a, .tv rRow b] (.raw (.bool (confl a b))) := by
  refine ct_intro Try.func39 rfl rfl Try.ntmps39 rfl rfl ?_
  intro w0 ok0
  refine j_seq ?_
  refine j_region ?_
  refine jg_os _ rfl (op_box (.tv (.base rfl)) rfl rfl rfl) ?_
  refine jg_os _ rfl (op_box (.tv (.base rfl)) rfl rfl rfl) ?_
  refine jg_adr _ rfl _ rfl rfl (op_assign (.base rfl)) ?_
  refine jg_nil ?_
  refine jn_keep [2, 3] [2, 3] (.cons rfl (.cons rfl .nil)) (.cons rfl (.cons rfl .nil)) ?_
  refine jn_seq (j_seq ?_)
  refine j_region ?_
  refine jg_adr _ rfl _ rfl rfl (op_ofield fld50_0 (.base rfl)) ?_
  refine jg_adr _ rfl _ rfl rfl (op_oload ty48 (.base rfl) rfl rfl ln50_0) ?_
  refine jg_adr _ rfl _ rfl rfl (op_ofield fld50_0 (.base rfl)) ?_
  refine jg_adr _ rfl _ rfl rfl (op_oload ty48 (.base rfl) rfl rfl ln50_0) ?_
  refine jg_adr _ rfl _ rfl rfl (op_call (drinter_ok _ _) (.cons (.base rfl) (.cons (.base rfl) .nil)) rfl rfl) ?_
  refine jg_adr _ rfl _ rfl rfl (op_move (.base rfl)) ?_
  refine jg_adr _ rfl _ rfl rfl (op_ext20 (.base rfl)) ?_
  refine jg_adr _ rfl _ rfl rfl (op_ext21 (.base rfl)) ?_
  refine jg_os _ rfl (op_alloc _ z48 rfl rfl rfl) ?_
  refine jg_os _ rfl (op_ostore ty48 (.base rfl) rfl rfl (Lens.id _) (.tv (.base rfl))) ?_
  refine jg_adr _ rfl _ rfl rfl (op_assign (.base rfl)) ?_
  refine jg_nil ?_
  refine jn_keep [2, 3, 6] [2, 3] (.cons rfl (.cons rfl (.cons rfl .nil))) (.cons rfl (.cons rfl .nil)) ?_
  refine jn_seq (j_seq ?_)
  refine j_region ?_
  refine jg_adr _ rfl _ rfl rfl (op_move (.base rfl)) ?_
  refine jg_adr _ rfl _ rfl rfl (op_move (.base rfl)) ?_
  refine jg_gd _ _ _ _ _ _ rfl rfl rfl rfl rfl (fun hg => op_ofield fld50_1 (.base rfl)) ?_
  refine jg_gd _ _ _ _ _ _ rfl rfl rfl rfl rfl (fun hg => op_oload ty3 (.gd rfl hg) rfl rfl ln50_1) ?_
  refine jg_gd _ _ _ _ _ _ rfl rfl rfl rfl rfl (fun hg => op_ofield fld50_1 (.base rfl)) ?_
  refine jg_gd _ _ _ _ _ _ rfl rfl rfl rfl rfl (fun hg => op_oload ty3 (.gd rfl hg) rfl rfl ln50_1) ?_
  refine jg_gd _ _ _ _ _ _ rfl rfl rfl rfl rfl (fun hg => op_max (.gd rfl hg) (.gd rfl hg)) ?_
  refine jg_gd _ _ _ _ _ _ rfl rfl rfl rfl rfl (fun hg => op_ofield fld50_2 (.base rfl)) ?_
  refine jg_gd _ _ _ _ _ _ rfl rfl rfl rfl rfl (fun hg => op_oload ty3 (.gd rfl hg) rfl rfl ln50_2) ?_
  refine jg_gd _ _ _ _ _ _ rfl rfl rfl rfl rfl (fun hg => op_ofield fld50_2 (.base rfl)) ?_
  refine jg_gd _ _ _ _ _ _ rfl rfl rfl rfl rfl (fun hg => op_oload ty3 (.gd rfl hg) rfl rfl ln50_2) ?_
  refine jg_gd _ _ _ _ _ _ rfl rfl rfl rfl rfl (fun hg => op_min (.gd rfl hg) (.gd rfl hg)) ?_
  refine jg_gd _ _ _ _ _ _ rfl rfl rfl rfl rfl (fun hg => op_lss (.gd rfl hg) (.gd rfl hg)) ?_
  refine jg_adr _ rfl _ rfl rfl (op_pick_and (.base rfl) (.base rfl) rfl (by intro h; first | (rw [h]; rfl) | (rw [hg, h]; rfl) | (rw [h, hg]; rfl) | simp_all)) ?_
  refine jg_adr _ rfl _ rfl rfl (op_assign (.base rfl)) ?_
  refine jg_nil ?_
  refine jn_keep [4] [] (.cons rfl .nil) .nil ?_
  refine jn_seq (j_ret ?_)
  exact jr_fin1 Try.results39 (res_tmp rfl) rfl (rb (by first | rfl | (unfold confl; rfl) | (simp [confl]; done)))

theorem first_ok (l : List TRow) (f : TRow → Bool) : Ct Try.prog 34 [.tv (rSlice rRow) l, .tv (rFun Try.prog rRow rBool (fun _ => True)) f] (svIB (firstL f l 0)) := by
  refine ct_intro Try.func34 rfl rfl Try.ntmps34 rfl rfl ?_
  intro w0 ok0
  refine j_len 0 rfl (fun hl0 => ?_)
  refine j_seq ?_
  refine j_region ?_
  refine jg_adr _ rfl _ rfl rfl (op_assign (.base rfl)) ?_
  refine jg_adr _ rfl _ rfl rfl (op_assign (.base rfl)) ?_
  refine jg_nil ?_
  refine jn_keep [0, 1] [] (.cons rfl (.cons rfl .nil)) .nil ?_
  refine jn_seq (j_seq (j_seq ?_))
  refine j_region ?_
  refine jg_adr _ rfl _ rfl rfl (op_move (.base rfl)) ?_
  refine jg_adr _ rfl _ rfl rfl (op_len Try.underlying24 (.base rfl)) ?_
  refine jg_adr _ rfl _ rfl rfl (op_move (.base rfl)) ?_
  refine jg_nil ?_
  refine jn_keep [1, 8, 9, 10] [] (.cons rfl (.cons rfl (.cons rfl (.cons rfl .nil)))) .nil ?_
  refine jn_seq (j_block ?_)
  refine j_loopp (ι := Nat) (fun k => ⟨[(1, .tv (rFun Try.prog rRow rBool (fun _ => True)) f), (8, .tv (rSlice rRow) l), (9, .raw (.int .i64 (l.length))), (10, .raw (.int .i64 ((k : Nat))))], []⟩) (fun k => k ≤ l.length ∧ firstL f (l.drop k) k = firstL f l 0) (fun k => l.length - k) 0 (⟨Nat.zero_le _, rfl⟩) (fun a w hi => (Sub.inv ⟨(by repeat (first | exact SubS_nil | refine SubS_cons rfl (by first | rfl | (simp; done) | assumption) ?_)), (by repeat (first | exact SubH_nil | refine SubH_cons rfl (by first | rfl | (simp; done) | assumption) ?_))⟩ hi)) ?_
  rintro k ⟨p1, p2⟩
  refine j_seq ?_
  refine j_region ?_
  refine jg_adr _ rfl _ rfl rfl (op_lss (.base rfl) (.base rfl)) ?_
  refine jg_nil ?_
  refine jn_keep [1, 8, 9, 10, 11] [] (.cons rfl (.cons rfl (.cons rfl (.cons rfl (.cons rfl .nil))))) .nil ?_
  refine jn_seq (j_seq ?_)
  refine j_cond rfl (fun h2 => ?_) (fun h2 => ?_)
  · simp at h2
    have hd := List.drop_eq_getElem_cons h2
    refine j_skip (jn_seq (j_seq (j_block (j_seq ?_))))
    refine j_region ?_
    refine jg_adr _ rfl _ rfl rfl (op_move (.base rfl)) ?_
    refine jg_adr _ rfl _ rfl rfl (op_index Try.underlying24 ty50 (.base rfl) (.base rfl) rfl (List.getElem?_eq_getElem (by first | omega | (simp; done) | (simp; omega) | (simp at hg; omega)))) ?_
    refine jg_adr _ rfl _ rfl rfl (op_load ty50 (.base rfl)) ?_
    refine jg_os _ rfl (op_alloc _ z50 rfl rfl rfl) ?_
    refine jg_adr _ rfl _ rfl rfl (op_assign (.base rfl)) ?_
    refine jg_os _ rfl (op_ostore ty50 (.base rfl) rfl rfl (Lens.id _) (.tv (.base rfl))) ?_
    refine jg_nil ?_
    refine jn_keep [1, 6, 7, 8, 9, 10] [7] (.cons rfl (.cons rfl (.cons rfl (.cons rfl (.cons rfl (.cons rfl .nil)))))) (.cons rfl .nil) ?_
    refine jn_seq (j_seq ?_)
    refine j_region ?_
    refine jg_adr _ rfl _ rfl rfl (op_move (.base rfl)) ?_
    refine jg_adr _ rfl _ rfl rfl (op_oload ty50 (.base rfl) rfl rfl (Lens.id _)) ?_
    refine jg_adr _ rfl _ rfl rfl (op_callf (.base rfl) (.tv (.base rfl)) trivial) ?_
    refine jg_nil ?_
    refine jn_keep [1, 6, 8, 9, 10, 17] [] (.cons rfl (.cons rfl (.cons rfl (.cons rfl (.cons rfl (.cons rfl .nil)))))) .nil ?_
    refine jn_seq ?_
    refine j_cond rfl (fun h4 => ?_) (fun h4 => ?_)
    · skip
      refine j_seq ?_
      refine j_region ?_
      refine jg_adr _ rfl _ rfl rfl (op_move (.base rfl)) ?_
      refine jg_adr _ rfl _ rfl rfl (op_assign (.base rfl)) ?_
      refine jg_adr _ rfl _ rfl rfl (op_assign (.base rfl)) ?_
      refine jg_nil ?_
      refine jn_keep [4, 5] [] (.cons rfl (.cons rfl .nil)) .nil ?_
      refine jn_seq (j_ret (jr_blk (jr_seq (jr_loop (jr_blk (jr_seq ?_))))))
      exact jr_fin2 Try.results34 (res_tmp rfl) (res_tmp rfl) ⟨rfl, rfl⟩ (svIB_eq (by rw [← p2, hd, firstL, if_pos h4]))
    · skip
      refine j_skip (jn_blk (jn_seq ?_))
      refine j_region ?_
      refine jg_adr _ rfl _ rfl rfl (op_add (.base rfl) (.base rfl) (w64 (by omega))) ?_
      refine jg_adr _ rfl _ rfl rfl (op_move (.base rfl)) ?_
      refine jg_nil ?_
      refine jn_keep [1, 8, 9, 10] [] (.cons rfl (.cons rfl (.cons rfl (.cons rfl .nil)))) .nil ?_
      exact jn_loop (fun a w hi => ⟨k + 1, (by first | omega | (simp; omega)), (⟨by omega, by rw [← p2, hd, firstL, if_neg (by rw [h4]; simp)]⟩), (Sub.inv ⟨(by repeat (first | exact SubS_nil | refine SubS_cons rfl (by first | rfl | (simp; done) | assumption) ?_)), (by repeat (first | exact SubH_nil | refine SubH_cons rfl (by first | rfl | (simp; done) | assumption) ?_))⟩ hi)⟩)
  · simp at h2
    refine j_exit (je_seq (je_loop (je_blk (jn_seq (j_seq ?_)))))
    refine j_region ?_
    refine jg_adr _ rfl _ rfl rfl (op_assign (.base rfl)) ?_
    refine jg_adr _ rfl _ rfl rfl (op_assign (.base rfl)) ?_
    refine jg_nil ?_
    refine jn_keep [4, 5] [] (.cons rfl (.cons rfl .nil)) .nil ?_
    refine jn_seq (j_ret ?_)
    exact jr_fin2 Try.results34 (res_tmp rfl) (res_tmp rfl) ⟨rfl, rfl⟩ (svIB_eq (by rw [← p2, List.drop_of_length_le (by omega)]; rfl))

theorem matches_ok (x : TRow) (date key : Int) : Ct Try.prog 23 [.tv rRow x, .raw (.int .i64 date), .raw (.int .i64 key)] (.raw (.bool (matchR date key x))) := by
  refine ct_intro Try.func23 rfl rfl Try.ntmps23 rfl rfl ?_
  intro w0 ok0
  refine j_seq ?_
  refine j_region ?_
  refine jg_os _ rfl (op_box (.tv (.base rfl)) rfl rfl rfl) ?_
  refine jg_adr _ rfl _ rfl rfl (op_assign (.base rfl)) ?_
  refine jg_nil ?_
  refine jn_keep [1, 2, 3] [3] (.cons rfl (.cons rfl (.cons rfl .nil))) (.cons rfl .nil) ?_
  refine jn_seq (j_seq ?_)
  refine j_region ?_
  refine jg_adr _ rfl _ rfl rfl (op_ofield fld50_0 (.base rfl)) ?_
  refine jg_adr _ rfl _ rfl rfl (op_oload ty48 (.base rfl) rfl rfl ln50_0) ?_
  refine jg_adr _ rfl _ rfl rfl (op_move (.base rfl)) ?_
  refine jg_adr _ rfl _ rfl rfl (op_call (drcont_ok _ _) (.cons (.base rfl) (.cons (.base rfl) .nil)) rfl rfl) ?_
  refine jg_adr _ rfl _ rfl rfl (op_move (.base rfl)) ?_
  refine jg_gd _ _ _ _ _ _ rfl rfl rfl rfl rfl (fun hg => op_ofield fld50_1 (.base rfl)) ?_
  refine jg_gd _ _ _ _ _ _ rfl rfl rfl rfl rfl (fun hg => op_oload ty3 (.gd rfl hg) rfl rfl ln50_1) ?_
  refine jg_gd _ _ _ _ _ _ rfl rfl rfl rfl rfl (fun hg => op_move (.base rfl)) ?_
  refine jg_gd _ _ _ _ _ _ rfl rfl rfl rfl rfl (fun hg => op_leq (.gd rfl hg) (.gd rfl hg)) ?_
  refine jg_adr _ rfl _ rfl rfl (op_pick_and (.base rfl) (.base rfl) rfl (by intro h; first | (rw [h]; rfl) | (rw [hg, h]; rfl) | (rw [h, hg]; rfl) | simp_all)) ?_
  refine jg_adr _ rfl _ rfl rfl (op_move (.base rfl)) ?_
  refine jg_gd _ _ _ _ _ _ rfl rfl rfl rfl rfl (fun hg => op_move (.base rfl)) ?_
  refine jg_gd _ _ _ _ _ _ rfl rfl rfl rfl rfl (fun hg => op_ofield fld50_2 (.base rfl)) ?_
  refine jg_gd _ _ _ _ _ _ rfl rfl rfl rfl rfl (fun hg => op_oload ty3 (.gd rfl hg) rfl rfl ln50_2) ?_
  refine jg_gd _ _ _ _ _ _ rfl rfl rfl rfl rfl (fun hg => op_lss (.gd rfl hg) (.gd rfl hg)) ?_
  refine jg_adr _ rfl _ rfl rfl (op_pick_and (.base rfl) (.base rfl) rfl (by intro h; first | (rw [h]; rfl) | (rw [hg, h]; rfl) | (rw [h, hg]; rfl) | simp_all)) ?_
  refine jg_adr _ rfl _ rfl rfl (op_assign (.base rfl)) ?_
  refine jg_nil ?_
  refine jn_keep [6] [] (.cons rfl .nil) .nil ?_
  refine jn_seq (j_ret ?_)
  exact jr_fin1 Try.results23 (res_tmp rfl) rfl (rb (by first | rfl | (unfold matchR; rfl) | (simp [matchR]; done)))

theorem lkc_ok (x : TRow) (date key : Int) : Ct Try.prog 45 [.tv rRow x, .eptr (rInt .i64) date, .eptr (rInt .i64) key] (.raw (.bool (matchR date key x))) := by
  refine ct_intro Try.func45 rfl rfl Try.ntmps45 rfl rfl ?_
  intro w0 ok0
  refine j_seq ?_
  refine j_region ?_
  refine jg_os _ rfl (op_box (.tv (.base rfl)) rfl rfl rfl) ?_
  refine jg_adr _ rfl _ rfl rfl (op_assign (.base rfl)) ?_
  refine jg_nil ?_
  refine jn_keep [1, 2, 3] [3] (.cons rfl (.cons rfl (.cons rfl .nil))) (.cons rfl .nil) ?_
  refine jn_seq (j_seq ?_)
  refine j_region ?_
  refine jg_adr _ rfl _ rfl rfl (op_ofield fld50_0 (.base rfl)) ?_
  refine jg_adr _ rfl _ rfl rfl (op_oload ty48 (.base rfl) rfl rfl ln50_0) ?_
  refine jg_adr _ rfl _ rfl rfl (op_load ty3 (.base rfl)) ?_
  refine jg_adr _ rfl _ rfl rfl (op_call (dcont_ok _ _) (.cons (.base rfl) (.cons (.base rfl) .nil)) rfl rfl) ?_
  refine jg_adr _ rfl _ rfl rfl (op_move (.base rfl)) ?_
  refine jg_gd _ _ _ _ _ _ rfl rfl rfl rfl rfl (fun hg => op_ofield fld50_1 (.base rfl)) ?_
  refine jg_gd _ _ _ _ _ _ rfl rfl rfl rfl rfl (fun hg => op_oload ty3 (.gd rfl hg) rfl rfl ln50_1) ?_
  refine jg_gd _ _ _ _ _ _ rfl rfl rfl rfl rfl (fun hg => op_load ty3 (.base rfl)) ?_
  refine jg_gd _ _ _ _ _ _ rfl rfl rfl rfl rfl (fun hg => op_leq (.gd rfl hg) (.gd rfl hg)) ?_
  refine jg_adr _ rfl _ rfl rfl (op_pick_and (.base rfl) (.base rfl) rfl (by intro h; first | (rw [h]; rfl) | (rw [hg, h]; rfl) | (rw [h, hg]; rfl) | simp_all)) ?_
  refine jg_adr _ rfl _ rfl rfl (op_move (.base rfl)) ?_
  refine jg_gd _ _ _ _ _ _ rfl rfl rfl rfl rfl (fun hg => op_load ty3 (.base rfl)) ?_
  refine jg_gd _ _ _ _ _ _ rfl rfl rfl rfl rfl (fun hg => op_ofield fld50_2 (.base rfl)) ?_
  refine jg_gd _ _ _ _ _ _ rfl rfl rfl rfl rfl (fun hg => op_oload ty3 (.gd rfl hg) rfl rfl ln50_2) ?_
  refine jg_gd _ _ _ _ _ _ rfl rfl rfl rfl rfl (fun hg => op_lss (.gd rfl hg) (.gd rfl hg)) ?_
  refine jg_adr _ rfl _ rfl rfl (op_pick_and (.base rfl) (.base rfl) rfl (by intro h; first | (rw [h]; rfl) | (rw [hg, h]; rfl) | (rw [h, hg]; rfl) | simp_all)) ?_
  refine jg_adr _ rfl _ rfl rfl (op_assign (.base rfl)) ?_
  refine jg_nil ?_
  refine jn_keep [4] [] (.cons rfl .nil) .nil ?_
  refine jn_seq (j_ret ?_)
  exact jr_fin1 Try.results45 (res_tmp rfl) rfl (rb (by first | rfl | (unfold matchR; rfl) | (simp [matchR]; done)))

theorem fcc_ok (x r : TRow) : Ct Try.prog 40 [.tv rRow x, .eptr rRow r] (.raw (.bool (confl x r))) := by
  refine ct_intro Try.func40 rfl rfl Try.ntmps40 rfl rfl ?_
  intro w0 ok0
  refine j_seq ?_
  refine j_region ?_
  refine jg_os _ rfl (op_box (.tv (.base rfl)) rfl rfl rfl) ?_
  refine jg_adr _ rfl _ rfl rfl (op_assign (.base rfl)) ?_
  refine jg_nil ?_
  refine jn_keep [1, 2] [2] (.cons rfl (.cons rfl .nil)) (.cons rfl .nil) ?_
  refine jn_seq (j_seq ?_)
  refine j_region ?_
  refine jg_adr _ rfl _ rfl rfl (op_oload ty50 (.base rfl) rfl rfl (Lens.id _)) ?_
  refine jg_adr _ rfl _ rfl rfl (op_load ty50 (.base rfl)) ?_
  refine jg_adr _ rfl _ rfl rfl (op_call (conflict_ok _ _) (.cons (.base rfl) (.cons (.base rfl) .nil)) rfl rfl) ?_
  refine jg_adr _ rfl _ rfl rfl (op_assign (.base rfl)) ?_
  refine jg_nil ?_
  refine jn_keep [3] [] (.cons rfl .nil) .nil ?_
  refine jn_seq (j_ret ?_)
  exact jr_fin1 Try.results40 (res_tmp rfl) rfl rfl

theorem vdc_ok (x r : TRow) : Ct Try.prog 35 [.tv rRow x, .eptr rRow r] (.raw (.bool (confl x r))) := by
  refine ct_intro Try.func35 rfl rfl Try.ntmps35 rfl rfl ?_
  intro w0 ok0
  refine j_seq ?_
  refine j_region ?_
  refine jg_os _ rfl (op_box (.tv (.base rfl)) rfl rfl rfl) ?_
  refine jg_adr _ rfl _ rfl rfl (op_assign (.base rfl)) ?_
  refine jg_nil ?_
  refine jn_keep [1, 2] [2] (.cons rfl (.cons rfl .nil)) (.cons rfl .nil) ?_
  refine jn_seq (j_seq ?_)
  refine j_region ?_
  refine jg_adr _ rfl _ rfl rfl (op_oload ty50 (.base rfl) rfl rfl (Lens.id _)) ?_
  refine jg_adr _ rfl _ rfl rfl (op_load ty50 (.base rfl)) ?_
  refine jg_adr _ rfl _ rfl rfl (op_call (conflict_ok _ _) (.cons (.base rfl) (.cons (.base rfl) .nil)) rfl rfl) ?_
  refine jg_adr _ rfl _ rfl rfl (op_assign (.base rfl)) ?_
  refine jg_nil ?_
  refine jn_keep [3] [] (.cons rfl .nil) .nil ?_
  refine jn_seq (j_ret ?_)
  exact jr_fin1 Try.results35 (res_tmp rfl) rfl rfl

theorem lookup_ok (t : TTable) (date key : Int) : Ct Try.prog 18 [.tv rTable t, .raw (.int .i64 date), .raw (.int .i64 key)] (svIB (firstL (matchR date key) t.2.2.2 0)) := by
  refine ct_intro Try.func18 rfl rfl Try.ntmps18 rfl rfl ?_
  intro w0 ok0
  refine j_seq ?_
  refine j_region ?_
  refine jg_os _ rfl (op_box (.tv (.base rfl)) rfl rfl rfl) ?_
  refine jg_adr _ rfl _ rfl rfl (op_boxe (rt := rInt .i64) (.raw (.base rfl) rfl)) ?_
  refine jg_adr _ rfl _ rfl rfl (op_boxe (rt := rInt .i64) (.raw (.base rfl) rfl)) ?_
  refine jg_adr _ rfl _ rfl rfl (op_assign (.base rfl)) ?_
  refine jg_adr _ rfl _ rfl rfl (op_assign (.base rfl)) ?_
  refine jg_nil ?_
  refine jn_keep [3, 4, 5] [3] (.cons rfl (.cons rfl (.cons rfl .nil))) (.cons rfl .nil) ?_
  refine jn_seq (j_seq ?_)
  refine j_region ?_
  refine jg_adr _ rfl _ rfl rfl (op_ofield fld26_3 (.base rfl)) ?_
  refine jg_adr _ rfl _ rfl rfl (op_oload ty24 (.base rfl) rfl rfl ln26_3) ?_
  refine jg_adr _ rfl _ rfl rfl (op_mkfun (A := rRow) (B := rBool) (φ := fun _ => True) (matchR date key) (callFunc_enter Try.func45 rfl (by kernel_rfl)) (fun x _ => lkc_ok x date key) (.cons (.base rfl) (.cons (.base rfl) .nil)) rfl) ?_
  refine jg_adr _ rfl _ rfl rfl (op_call (first_ok _ _) (.cons (.base rfl) (.cons (.base rfl) .nil)) rfl rfl) ?_
  refine jg_adr _ rfl _ rfl rfl (op_ext20 (.base rfl)) ?_
  refine jg_adr _ rfl _ rfl rfl (op_ext21 (.base rfl)) ?_
  refine jg_adr _ rfl _ rfl rfl (op_assign (.base rfl)) ?_
  refine jg_adr _ rfl _ rfl rfl (op_assign (.base rfl)) ?_
  refine jg_nil ?_
  refine jn_keep [6, 7] [] (.cons rfl (.cons rfl .nil)) .nil ?_
  refine jn_seq (j_ret ?_)
  exact jr_fin2 Try.results18 (res_tmp rfl) (res_tmp rfl) ⟨rfl, rfl⟩ (svIB_eq rfl)

end Go.Proofs.Ytcdkmhmlpjnfeaa
