import Derived.Test.YtgoggdaohdablaaGreatP23j
namespace Go.Proofs.YtgoggdaohdablaaGreat
open Go.Eng
set_option maxRecDepth 100000
set_option maxHeartbeats 4000000
set_option linter.unusedVariables false
set_option linter.unusedSimpArgs false

theorem literal_ok (d : TNode) (env : TEnv) (hI : d.1 = 7 → 0 ≤ d.2 ∧ d.2 < (env.2.1.length : Int)) (ho : 1 ≤ d.1 ∧ d.1 ≤ 7) (hE : d.1 = 6 → 0 ≤ d.2) (hp : plaus (leafV d env.2.1) = true) : Ct Tryz.prog 65 [.tv rNode d, .tv rEnv env] (svVE (leafV d env.2.1)) := by
  refine ct_intro Tryz.func65 rfl rfl Tryz.ntmps65 rfl rfl ?_
  intro w0 ok0
  refine j_seq ?_
  refine j_region ?_
  refine jg_os _ rfl (op_box (.tv (.base rfl)) rfl rfl rfl) ?_
  refine jg_os _ rfl (op_box (.tv (.base rfl)) rfl rfl rfl) ?_
  refine jg_os _ rfl (op_alloc _ z42 rfl rfl rfl) ?_
  refine jg_adr _ rfl _ rfl rfl (op_assign (.base rfl)) ?_
  refine jg_nil ?_
  refine jn_keep [2, 3, 4] [2, 3, 4] (.cons rfl (.cons rfl (.cons rfl .nil))) (.cons rfl (.cons rfl (.cons rfl .nil))) ?_
  refine jn_seq (j_seq (j_seq ?_))
  refine j_region ?_
  refine jg_adr _ rfl _ rfl rfl (op_ofield fld56_0 (.base rfl)) ?_
  refine jg_adr _ rfl _ rfl rfl (op_oload ty3 (.base rfl) rfl rfl ln56_0) ?_
  refine jg_nil ?_
  refine jn_keep [2, 3, 4, 8] [2, 3, 4] (.cons rfl (.cons rfl (.cons rfl (.cons rfl .nil)))) (.cons rfl (.cons rfl (.cons rfl .nil))) ?_
  refine jn_seq (j_block (j_seq ?_))
  refine j_region ?_
  refine jg_adr _ rfl _ rfl rfl (op_eql (.base rfl) (.base rfl)) ?_
  refine jg_adr _ rfl _ rfl rfl (op_assign (.base rfl)) ?_
  refine jg_nil ?_
  refine jn_keep [2, 3, 4, 8, 9] [2, 3, 4] (.cons rfl (.cons rfl (.cons rfl (.cons rfl (.cons rfl .nil))))) (.cons rfl (.cons rfl (.cons rfl .nil))) ?_
  refine jn_seq ?_
  refine j_cond rfl (fun h2 => ?_) (fun h2 => ?_)
  · have h2 : d.1 = 7 := by simpa using h2
    have hi7 := hI h2
    have hlt : d.2.toNat < env.2.1.length := by omega
    have hnn : d.2 = ((d.2.toNat : Nat) : Int) := by omega
    have e7 : leafV d env.2.1 = env.2.1[d.2.toNat] := leaf_in h2 hlt
    rw [e7] at hp ⊢
    refine j_seq (j_seq ?_)
    refine j_region ?_
    refine jg_adr _ rfl _ rfl rfl (op_ofield fld48_1 (.base rfl)) ?_
    refine jg_adr _ rfl _ rfl rfl (op_oload ty32 (.base rfl) rfl rfl ln48_1) ?_
    refine jg_adr _ rfl _ rfl rfl (op_ofield fld56_1 (.base rfl)) ?_
    refine jg_adr _ rfl _ rfl rfl (op_oload ty3 (.base rfl) rfl rfl ln56_1) ?_
    refine jg_adr _ rfl _ rfl rfl (op_index Tryz.underlying32 ty42 (.base rfl) (.base rfl) hnn (List.getElem?_eq_getElem (by first | omega | (simp; done) | (simp; omega) | (simp at hg; omega)))) ?_
    refine jg_adr _ rfl _ rfl rfl (op_load ty42 (.base rfl)) ?_
    refine jg_adr _ rfl _ rfl rfl (op_call (plaus_ok _) (.cons (.base rfl) .nil) rfl rfl) ?_
    refine jg_adr _ rfl _ rfl rfl (op_not (.base rfl)) ?_
    refine jg_nil ?_
    refine jn_keep [2, 3, 4, 18] [2, 3, 4] (.cons rfl (.cons rfl (.cons rfl (.cons rfl .nil)))) (.cons rfl (.cons rfl (.cons rfl .nil))) ?_
    refine jn_seq ?_
    refine j_cond rfl (fun h3 => ?_) (fun h3 => ?_)
    · exfalso; simp at h3; rw [hp] at h3; cases h3
    · try simp at h3
      refine j_skip (jn_seq (j_seq ?_))
      refine j_region ?_
      refine jg_adr _ rfl _ rfl rfl (op_ofield fld48_1 (.base rfl)) ?_
      refine jg_adr _ rfl _ rfl rfl (op_oload ty32 (.base rfl) rfl rfl ln48_1) ?_
      refine jg_adr _ rfl _ rfl rfl (op_ofield fld56_1 (.base rfl)) ?_
      refine jg_adr _ rfl _ rfl rfl (op_oload ty3 (.base rfl) rfl rfl ln56_1) ?_
      refine jg_adr _ rfl _ rfl rfl (op_index Tryz.underlying32 ty42 (.base rfl) (.base rfl) hnn (List.getElem?_eq_getElem (by first | omega | (simp; done) | (simp; omega) | (simp at hg; omega)))) ?_
      refine jg_adr _ rfl _ rfl rfl (op_load ty42 (.base rfl)) ?_
      refine jg_os _ rfl (op_ostore ty42 (.base rfl) rfl rfl (Lens.id _) (.tv (.base rfl))) ?_
      refine jg_adr _ rfl _ rfl rfl (op_assign (.base rfl)) ?_
      refine jg_nil ?_
      refine jn_keep [4, 5] [4] (.cons rfl (.cons rfl .nil)) (.cons rfl .nil) ?_
      refine jn_seq (j_ret (jr_blk (jr_seq ?_)))
      exact jr_fin2 Tryz.results65 (res_cell ty42 rfl rfl rfl (Lens.id rValue)) (res_tmp rfl) ⟨rfl, rfl⟩ (svVE_eq (rfl) (rfl))
  · have h2 : ¬ d.1 = 7 := by simpa using h2
    refine j_seq ?_
    refine j_region ?_
    refine jg_adr _ rfl _ rfl rfl (op_eql (.base rfl) (.base rfl)) ?_
    refine jg_adr _ rfl _ rfl rfl (op_assign (.base rfl)) ?_
    refine jg_nil ?_
    refine jn_keep [2, 3, 4, 8, 26] [2, 3, 4] (.cons rfl (.cons rfl (.cons rfl (.cons rfl (.cons rfl .nil))))) (.cons rfl (.cons rfl (.cons rfl .nil))) ?_
    refine jn_seq ?_
    refine j_cond rfl (fun h6 => ?_) (fun h6 => ?_)
    · exfalso; simp at h6; omega
    · try simp at h6
      refine j_seq ?_
      refine j_region ?_
      refine jg_adr _ rfl _ rfl rfl (op_eql (.base rfl) (.base rfl)) ?_
      refine jg_adr _ rfl _ rfl rfl (op_assign (.base rfl)) ?_
      refine jg_nil ?_
      refine jn_keep [2, 3, 4, 8, 43] [2, 3, 4] (.cons rfl (.cons rfl (.cons rfl (.cons rfl (.cons rfl .nil))))) (.cons rfl (.cons rfl (.cons rfl .nil))) ?_
      refine jn_seq ?_
      refine j_cond rfl (fun h10 => ?_) (fun h10 => ?_)
      · exfalso; simp at h10; omega
      · try simp at h10
        refine j_seq ?_
        refine j_region ?_
        refine jg_adr _ rfl _ rfl rfl (op_eql (.base rfl) (.base rfl)) ?_
        refine jg_adr _ rfl _ rfl rfl (op_assign (.base rfl)) ?_
        refine jg_nil ?_
        refine jn_keep [2, 3, 4, 8, 50] [2, 3, 4] (.cons rfl (.cons rfl (.cons rfl (.cons rfl (.cons rfl .nil))))) (.cons rfl (.cons rfl (.cons rfl .nil))) ?_
        refine jn_seq ?_
        refine j_cond rfl (fun h12 => ?_) (fun h12 => ?_)
        · exfalso; simp at h12; omega
        · try simp at h12
          refine j_seq ?_
          refine j_region ?_
          refine jg_adr _ rfl _ rfl rfl (op_eql (.base rfl) (.base rfl)) ?_
          refine jg_adr _ rfl _ rfl rfl (op_assign (.base rfl)) ?_
          refine jg_nil ?_
          refine jn_keep [2, 4, 58] [2, 4] (.cons rfl (.cons rfl (.cons rfl .nil))) (.cons rfl (.cons rfl .nil)) ?_
          refine jn_seq ?_
          refine j_cond rfl (fun h14 => ?_) (fun h14 => ?_)
          · have h14 : d.1 = 6 := by simpa using h14
            have e6 : leafV d env.2.1 = (6, d.2 / 16, d.2 % 16) := by unfold leafV; rw [if_neg h2, if_pos h14]
            rw [e6] at hp ⊢
            have hd0 := hE h14
            have hb : d.2 < 128 := by simp [plaus] at hp; omega
            refine j_seq ?_
            refine j_region ?_
            refine jg_adr _ rfl _ rfl rfl (op_ofield fld56_1 (.base rfl)) ?_
            refine jg_adr _ rfl _ rfl rfl (op_oload ty3 (.base rfl) rfl rfl ln56_1) ?_
            refine jg_adr _ rfl _ rfl rfl (op_quo (.base rfl) (.base rfl) (by omega) (quo64 hd0 (by omega) (by omega))) ?_
            refine jg_adr _ rfl _ rfl rfl (op_ofield fld56_1 (.base rfl)) ?_
            refine jg_adr _ rfl _ rfl rfl (op_oload ty3 (.base rfl) rfl rfl ln56_1) ?_
            refine jg_adr _ rfl _ rfl rfl (op_rem_e (.base rfl) (.base rfl) (by omega) (rem64 hd0)) ?_
            refine jg_adr _ rfl _ rfl rfl (op_build z42 rfl pl42 (.cons (rt' := (rInt .i64)) rfl ln42_0 (.raw (.base rfl) rfl) (.cons (rt' := (rInt .i64)) rfl ln42_1 (.raw (.base rfl) rfl) (.cons (rt' := (rInt .i64)) rfl ln42_2 (.raw (.base rfl) rfl) .nil)))) ?_
            refine jg_os _ rfl (op_alloc _ z42 rfl rfl rfl) ?_
            refine jg_os _ rfl (op_ostore ty42 (.base rfl) rfl rfl (Lens.id _) (.tv (.base rfl))) ?_
            refine jg_nil ?_
            refine jn_keep [4, 6] [4, 6] (.cons rfl (.cons rfl .nil)) (.cons rfl (.cons rfl .nil)) ?_
            refine jn_seq (j_seq (j_seq ?_))
            refine j_region ?_
            refine jg_adr _ rfl _ rfl rfl (op_oload ty42 (.base rfl) rfl rfl (Lens.id _)) ?_
            refine jg_adr _ rfl _ rfl rfl (op_call (plaus_ok _) (.cons (.base rfl) .nil) rfl rfl) ?_
            refine jg_adr _ rfl _ rfl rfl (op_not (.base rfl)) ?_
            refine jg_nil ?_
            refine jn_keep [4, 6, 69] [4, 6] (.cons rfl (.cons rfl (.cons rfl .nil))) (.cons rfl (.cons rfl .nil)) ?_
            refine jn_seq ?_
            refine j_cond rfl (fun h16 => ?_) (fun h16 => ?_)
            · exfalso; simp at h16; rw [hp] at h16; cases h16
            · try simp at h16
              refine j_skip (jn_seq (j_seq ?_))
              refine j_region ?_
              refine jg_adr _ rfl _ rfl rfl (op_oload ty42 (.base rfl) rfl rfl (Lens.id _)) ?_
              refine jg_os _ rfl (op_ostore ty42 (.base rfl) rfl rfl (Lens.id _) (.tv (.base rfl))) ?_
              refine jg_adr _ rfl _ rfl rfl (op_assign (.base rfl)) ?_
              refine jg_nil ?_
              refine jn_keep [4, 5] [4] (.cons rfl (.cons rfl .nil)) (.cons rfl .nil) ?_
              refine jn_seq (j_ret (jr_blk (jr_seq ?_)))
              exact jr_fin2 Tryz.results65 (res_cell ty42 rfl rfl rfl (Lens.id rValue)) (res_tmp rfl) ⟨rfl, rfl⟩ (svVE_eq (rfl) (rfl))
          · have h14 : ¬ d.1 = 6 := by simpa using h14
            have e1 : leafV d env.2.1 = (d.1, 0, d.2) := by unfold leafV; rw [if_neg h2, if_neg h14]
            rw [e1] at hp ⊢
            refine j_skip (jn_blk (jn_seq (j_seq ?_)))
            refine j_region ?_
            refine jg_adr _ rfl _ rfl rfl (op_ofield fld56_0 (.base rfl)) ?_
            refine jg_adr _ rfl _ rfl rfl (op_oload ty3 (.base rfl) rfl rfl ln56_0) ?_
            refine jg_adr _ rfl _ rfl rfl (op_ofield fld56_1 (.base rfl)) ?_
            refine jg_adr _ rfl _ rfl rfl (op_oload ty3 (.base rfl) rfl rfl ln56_1) ?_
            refine jg_adr _ rfl _ rfl rfl (op_call (made_ok _ _ hp) (.cons (.base rfl) (.cons (.base rfl) .nil)) rfl rfl) ?_
            refine jg_adr _ rfl _ rfl rfl (op_ext20 (.base rfl)) ?_
            refine jg_adr _ rfl _ rfl rfl (op_ext21 (.base rfl)) ?_
            refine jg_os _ rfl (op_ostore ty42 (.base rfl) rfl rfl (Lens.id _) (.tv (.base rfl))) ?_
            refine jg_adr _ rfl _ rfl rfl (op_assign (.base rfl)) ?_
            refine jg_nil ?_
            refine jn_keep [4, 5] [4] (.cons rfl (.cons rfl .nil)) (.cons rfl .nil) ?_
            refine jn_seq (j_ret ?_)
            exact jr_fin2 Tryz.results65 (res_cell ty42 rfl rfl rfl (Lens.id rValue)) (res_tmp rfl) ⟨rfl, rfl⟩ (svVE_eq (rfl) (rfl))

theorem single_ok (d : TNode) (a : TValue) (env : TEnv) (ho : d.1 = 25) (hk : a.1 = 1) : Ct Tryz.prog 66 [.tv rNode d, .tv rValue a, .tv rEnv env] (svVE (truthV (decide (a.2.2 = 0)))) := by
  refine ct_intro Tryz.func66 rfl rfl Tryz.ntmps66 rfl rfl ?_
  intro w0 ok0
  refine j_seq ?_
  refine j_region ?_
  refine jg_os _ rfl (op_box (.tv (.base rfl)) rfl rfl rfl) ?_
  refine jg_os _ rfl (op_box (.tv (.base rfl)) rfl rfl rfl) ?_
  refine jg_os _ rfl (op_box (.tv (.base rfl)) rfl rfl rfl) ?_
  refine jg_os _ rfl (op_alloc _ z42 rfl rfl rfl) ?_
  refine jg_adr _ rfl _ rfl rfl (op_assign (.base rfl)) ?_
  refine jg_nil ?_
  refine jn_keep [3, 4, 5, 6] [3, 4, 5, 6] (.cons rfl (.cons rfl (.cons rfl (.cons rfl .nil)))) (.cons rfl (.cons rfl (.cons rfl (.cons rfl .nil)))) ?_
  refine jn_seq (j_seq (j_seq ?_))
  refine j_region ?_
  refine jg_adr _ rfl _ rfl rfl (op_ofield fld56_0 (.base rfl)) ?_
  refine jg_adr _ rfl _ rfl rfl (op_oload ty3 (.base rfl) rfl rfl ln56_0) ?_
  refine jg_nil ?_
  refine jn_keep [3, 4, 5, 6, 15] [3, 4, 5, 6] (.cons rfl (.cons rfl (.cons rfl (.cons rfl (.cons rfl .nil))))) (.cons rfl (.cons rfl (.cons rfl (.cons rfl .nil)))) ?_
  refine jn_seq (j_block (j_seq ?_))
  refine j_region ?_
  refine jg_adr _ rfl _ rfl rfl (op_eql (.base rfl) (.base rfl)) ?_
  refine jg_adr _ rfl _ rfl rfl (op_assign (.base rfl)) ?_
  refine jg_nil ?_
  refine jn_keep [3, 4, 5, 6, 15, 16] [3, 4, 5, 6] (.cons rfl (.cons rfl (.cons rfl (.cons rfl (.cons rfl (.cons rfl .nil)))))) (.cons rfl (.cons rfl (.cons rfl (.cons rfl .nil)))) ?_
  refine jn_seq ?_
  refine j_cond rfl (fun h2 => ?_) (fun h2 => ?_)
  · exfalso; simp at h2; omega
  · try simp at h2
    refine j_seq ?_
    refine j_region ?_
    refine jg_adr _ rfl _ rfl rfl (op_eql (.base rfl) (.base rfl)) ?_
    refine jg_adr _ rfl _ rfl rfl (op_assign (.base rfl)) ?_
    refine jg_nil ?_
    refine jn_keep [3, 4, 5, 6, 15, 31] [3, 4, 5, 6] (.cons rfl (.cons rfl (.cons rfl (.cons rfl (.cons rfl (.cons rfl .nil)))))) (.cons rfl (.cons rfl (.cons rfl (.cons rfl .nil)))) ?_
    refine jn_seq ?_
    refine j_cond rfl (fun h6 => ?_) (fun h6 => ?_)
    · skip
      refine j_seq (j_seq ?_)
      refine j_region ?_
      refine jg_adr _ rfl _ rfl rfl (op_ofield fld42_0 (.base rfl)) ?_
      refine jg_adr _ rfl _ rfl rfl (op_oload ty3 (.base rfl) rfl rfl ln42_0) ?_
      refine jg_adr _ rfl _ rfl rfl (op_neq (.base rfl) (.base rfl)) ?_
      refine jg_nil ?_
      refine jn_keep [4, 6, 35] [4, 6] (.cons rfl (.cons rfl (.cons rfl .nil))) (.cons rfl (.cons rfl .nil)) ?_
      refine jn_seq ?_
      refine j_cond rfl (fun h7 => ?_) (fun h7 => ?_)
      · exfalso; simp at h7; exact h7 hk
      · try simp at h7
        refine j_skip (jn_seq (j_seq ?_))
        refine j_region ?_
        refine jg_adr _ rfl _ rfl rfl (op_ofield fld42_2 (.base rfl)) ?_
        refine jg_adr _ rfl _ rfl rfl (op_oload ty3 (.base rfl) rfl rfl ln42_2) ?_
        refine jg_adr _ rfl _ rfl rfl (op_eql (.base rfl) (.base rfl)) ?_
        refine jg_adr _ rfl _ rfl rfl (op_call (truth_ok _) (.cons (.base rfl) .nil) rfl rfl) ?_
        refine jg_adr _ rfl _ rfl rfl (op_ext20 (.base rfl)) ?_
        refine jg_adr _ rfl _ rfl rfl (op_ext21 (.base rfl)) ?_
        refine jg_os _ rfl (op_ostore ty42 (.base rfl) rfl rfl (Lens.id _) (.tv (.base rfl))) ?_
        refine jg_adr _ rfl _ rfl rfl (op_assign (.base rfl)) ?_
        refine jg_nil ?_
        refine jn_keep [6, 7] [6] (.cons rfl (.cons rfl .nil)) (.cons rfl .nil) ?_
        refine jn_seq (j_ret (jr_blk (jr_seq ?_)))
        exact jr_fin2 Tryz.results66 (res_cell ty42 rfl rfl rfl (Lens.id rValue)) (res_tmp rfl) ⟨rfl, rfl⟩ (svVE_eq (congrArg truthV (by rw [Bool.eq_iff_iff]; simp)) (rfl))
    · exfalso; simp at h6; exact h6 ho

theorem compared_ok (op : Int) (a b : TValue) (ho : 19 ≤ op ∧ op ≤ 22) (hk : a.1 = b.1 ∧ a.2.1 = b.2.1) (hn : 21 ≤ op → 2 ≤ a.1 ∧ a.1 ≤ 5) : Ct Tryz.prog 90 [.raw (.int .i64 op), .tv rValue a, .tv rValue b] (svVE (cmpV op a b)) := by
  refine ct_intro Tryz.func90 rfl rfl Tryz.ntmps90 rfl rfl ?_
  intro w0 ok0
  refine j_seq ?_
  refine j_region ?_
  refine jg_os _ rfl (op_box (.tv (.base rfl)) rfl rfl rfl) ?_
  refine jg_os _ rfl (op_box (.tv (.base rfl)) rfl rfl rfl) ?_
  refine jg_os _ rfl (op_alloc _ z42 rfl rfl rfl) ?_
  refine jg_adr _ rfl _ rfl rfl (op_assign (.base rfl)) ?_
  refine jg_nil ?_
  refine jn_keep [0, 4, 5, 6] [4, 5, 6] (.cons rfl (.cons rfl (.cons rfl (.cons rfl .nil)))) (.cons rfl (.cons rfl (.cons rfl .nil))) ?_
  refine jn_seq (j_seq (j_seq ?_))
  refine j_region ?_
  refine jg_adr _ rfl _ rfl rfl (op_ofield fld42_0 (.base rfl)) ?_
  refine jg_adr _ rfl _ rfl rfl (op_oload ty3 (.base rfl) rfl rfl ln42_0) ?_
  refine jg_adr _ rfl _ rfl rfl (op_ofield fld42_0 (.base rfl)) ?_
  refine jg_adr _ rfl _ rfl rfl (op_oload ty3 (.base rfl) rfl rfl ln42_0) ?_
  refine jg_adr _ rfl _ rfl rfl (op_neq (.base rfl) (.base rfl)) ?_
  refine jg_adr _ rfl _ rfl rfl (op_move (.base rfl)) ?_
  refine jg_gd _ _ _ _ _ _ rfl rfl rfl rfl rfl (fun hg => op_ofield fld42_1 (.base rfl)) ?_
  refine jg_gd _ _ _ _ _ _ rfl rfl rfl rfl rfl (fun hg => op_oload ty3 (.gd rfl hg) rfl rfl ln42_1) ?_
  refine jg_gd _ _ _ _ _ _ rfl rfl rfl rfl rfl (fun hg => op_ofield fld42_1 (.base rfl)) ?_
  refine jg_gd _ _ _ _ _ _ rfl rfl rfl rfl rfl (fun hg => op_oload ty3 (.gd rfl hg) rfl rfl ln42_1) ?_
  refine jg_gd _ _ _ _ _ _ rfl rfl rfl rfl rfl (fun hg => op_neq (.gd rfl hg) (.gd rfl hg)) ?_
  refine jg_adr _ rfl _ rfl rfl (op_pick_or (.base rfl) (.base rfl) rfl (by intro h; first | (rw [h]; rfl) | (rw [hg, h]; rfl) | (rw [h, hg]; rfl) | simp_all)) ?_
  refine jg_nil ?_
  refine jn_keep [0, 4, 5, 6, 19] [4, 5, 6] (.cons rfl (.cons rfl (.cons rfl (.cons rfl (.cons rfl .nil))))) (.cons rfl (.cons rfl (.cons rfl .nil))) ?_
  refine jn_seq ?_
  refine j_cond rfl (fun h1 => ?_) (fun h1 => ?_)
  · exfalso; simp at h1; omega
  · try simp at h1
    refine j_skip (jn_seq (j_seq (j_seq ?_)))
    refine j_region ?_
    refine jg_adr _ rfl _ rfl rfl (op_move (.base rfl)) ?_
    refine jg_nil ?_
    refine jn_keep [0, 4, 5, 6, 21] [4, 5, 6] (.cons rfl (.cons rfl (.cons rfl (.cons rfl (.cons rfl .nil))))) (.cons rfl (.cons rfl (.cons rfl .nil))) ?_
    refine jn_seq (j_block (j_seq ?_))
    refine j_region ?_
    refine jg_adr _ rfl _ rfl rfl (op_eql (.base rfl) (.base rfl)) ?_
    refine jg_adr _ rfl _ rfl rfl (op_assign (.base rfl)) ?_
    refine jg_nil ?_
    refine jn_keep [0, 4, 5, 6, 21, 22] [4, 5, 6] (.cons rfl (.cons rfl (.cons rfl (.cons rfl (.cons rfl (.cons rfl .nil)))))) (.cons rfl (.cons rfl (.cons rfl .nil))) ?_
    refine jn_seq ?_
    refine j_cond rfl (fun h4 => ?_) (fun h4 => ?_)
    · have h4 : op = 19 := by simpa using h4
      refine j_seq ?_
      refine j_region ?_
      refine jg_adr _ rfl _ rfl rfl (op_ofield fld42_2 (.base rfl)) ?_
      refine jg_adr _ rfl _ rfl rfl (op_oload ty3 (.base rfl) rfl rfl ln42_2) ?_
      refine jg_adr _ rfl _ rfl rfl (op_ofield fld42_2 (.base rfl)) ?_
      refine jg_adr _ rfl _ rfl rfl (op_oload ty3 (.base rfl) rfl rfl ln42_2) ?_
      refine jg_adr _ rfl _ rfl rfl (op_eql (.base rfl) (.base rfl)) ?_
      refine jg_adr _ rfl _ rfl rfl (op_call (truth_ok _) (.cons (.base rfl) .nil) rfl rfl) ?_
      refine jg_adr _ rfl _ rfl rfl (op_ext20 (.base rfl)) ?_
      refine jg_adr _ rfl _ rfl rfl (op_ext21 (.base rfl)) ?_
      refine jg_os _ rfl (op_ostore ty42 (.base rfl) rfl rfl (Lens.id _) (.tv (.base rfl))) ?_
      refine jg_adr _ rfl _ rfl rfl (op_assign (.base rfl)) ?_
      refine jg_nil ?_
      refine jn_keep [6, 7] [6] (.cons rfl (.cons rfl .nil)) (.cons rfl .nil) ?_
      refine jn_seq (j_ret (jr_blk (jr_seq ?_)))
      exact jr_fin2 Tryz.results90 (res_cell ty42 rfl rfl rfl (Lens.id rValue)) (res_tmp rfl) ⟨rfl, rfl⟩ (svVE_eq (by unfold cmpV; rw [if_pos h4]; first | rfl | (congr 1; rw [Bool.eq_iff_iff]; simp; done)) (rfl))
    · have h4 : ¬ op = 19 := by simpa using h4
      refine j_seq ?_
      refine j_region ?_
      refine jg_adr _ rfl _ rfl rfl (op_eql (.base rfl) (.base rfl)) ?_
      refine jg_adr _ rfl _ rfl rfl (op_assign (.base rfl)) ?_
      refine jg_nil ?_
      refine jn_keep [0, 4, 5, 6, 21, 32] [4, 5, 6] (.cons rfl (.cons rfl (.cons rfl (.cons rfl (.cons rfl (.cons rfl .nil)))))) (.cons rfl (.cons rfl (.cons rfl .nil))) ?_
      refine jn_seq ?_
      refine j_cond rfl (fun h6 => ?_) (fun h6 => ?_)
      · have h6 : op = 20 := by simpa using h6
        refine j_seq ?_
        refine j_region ?_
        refine jg_adr _ rfl _ rfl rfl (op_ofield fld42_2 (.base rfl)) ?_
        refine jg_adr _ rfl _ rfl rfl (op_oload ty3 (.base rfl) rfl rfl ln42_2) ?_
        refine jg_adr _ rfl _ rfl rfl (op_ofield fld42_2 (.base rfl)) ?_
        refine jg_adr _ rfl _ rfl rfl (op_oload ty3 (.base rfl) rfl rfl ln42_2) ?_
        refine jg_adr _ rfl _ rfl rfl (op_neq (.base rfl) (.base rfl)) ?_
        refine jg_adr _ rfl _ rfl rfl (op_call (truth_ok _) (.cons (.base rfl) .nil) rfl rfl) ?_
        refine jg_adr _ rfl _ rfl rfl (op_ext20 (.base rfl)) ?_
        refine jg_adr _ rfl _ rfl rfl (op_ext21 (.base rfl)) ?_
        refine jg_os _ rfl (op_ostore ty42 (.base rfl) rfl rfl (Lens.id _) (.tv (.base rfl))) ?_
        refine jg_adr _ rfl _ rfl rfl (op_assign (.base rfl)) ?_
        refine jg_nil ?_
        refine jn_keep [6, 7] [6] (.cons rfl (.cons rfl .nil)) (.cons rfl .nil) ?_
        refine jn_seq (j_ret (jr_blk (jr_seq ?_)))
        exact jr_fin2 Tryz.results90 (res_cell ty42 rfl rfl rfl (Lens.id rValue)) (res_tmp rfl) ⟨rfl, rfl⟩ (svVE_eq (by unfold cmpV; rw [if_neg h4, if_pos h6]; first | rfl | (congr 1; rw [Bool.eq_iff_iff]; simp; done)) (rfl))
      · have h6 : ¬ op = 20 := by simpa using h6
        refine j_seq (j_seq ?_)
        refine j_region ?_
        refine jg_adr _ rfl _ rfl rfl (op_eql (.base rfl) (.base rfl)) ?_
        refine jg_adr _ rfl _ rfl rfl (op_assign (.base rfl)) ?_
        refine jg_nil ?_
        refine jn_keep [0, 4, 5, 6, 21, 42] [4, 5, 6] (.cons rfl (.cons rfl (.cons rfl (.cons rfl (.cons rfl (.cons rfl .nil)))))) (.cons rfl (.cons rfl (.cons rfl .nil))) ?_
        refine jn_seq ?_
        refine j_cond rfl (fun h8 => ?_) (fun h8 => ?_)
        · exfalso; simp at h8; omega
        · have g8 := h8; try simp at h8
          refine j_region ?_
          refine jg_adr _ rfl _ rfl rfl (op_eql (.base rfl) (.base rfl)) ?_
          refine jg_adr _ rfl _ rfl rfl (op_assign (.base rfl)) ?_
          refine jg_nil ?_
          refine jn_keep [0, 4, 5, 6, 21, 42] [4, 5, 6] (.cons rfl (.cons rfl (.cons rfl (.cons rfl (.cons rfl (.cons rfl .nil)))))) (.cons rfl (.cons rfl (.cons rfl .nil))) ?_
          refine jn_seq ?_
          refine j_cond rfl (fun h9 => ?_) (fun h9 => ?_)
          · exfalso; simp at h9; omega
          · have g9 := h9; try simp at h9
            refine j_seq (j_seq ?_)
            refine j_region ?_
            refine jg_adr _ rfl _ rfl rfl (op_eql (.base rfl) (.base rfl)) ?_
            refine jg_adr _ rfl _ rfl rfl (op_assign (.base rfl)) ?_
            refine jg_nil ?_
            refine jn_keep [0, 4, 5, 6, 21, 70] [4, 5, 6] (.cons rfl (.cons rfl (.cons rfl (.cons rfl (.cons rfl (.cons rfl .nil)))))) (.cons rfl (.cons rfl (.cons rfl .nil))) ?_
            refine jn_seq ?_
            refine j_cond rfl (fun h13 => ?_) (fun h13 => ?_)
            · exfalso; simp at h13; omega
            · have g13 := h13; try simp at h13
              refine j_region ?_
              refine jg_adr _ rfl _ rfl rfl (op_eql (.base rfl) (.base rfl)) ?_
              refine jg_adr _ rfl _ rfl rfl (op_assign (.base rfl)) ?_
              refine jg_nil ?_
              refine jn_keep [0, 4, 5, 6, 70] [4, 5, 6] (.cons rfl (.cons rfl (.cons rfl (.cons rfl (.cons rfl .nil))))) (.cons rfl (.cons rfl (.cons rfl .nil))) ?_
              refine jn_seq ?_
              refine j_cond rfl (fun h14 => ?_) (fun h14 => ?_)
              · exfalso; simp at h14; omega
              · have g14 := h14; try simp at h14
                refine j_skip (jn_blk (jn_seq (j_seq (j_seq ?_))))
                refine j_region ?_
                refine jg_adr _ rfl _ rfl rfl (op_ofield fld42_0 (.base rfl)) ?_
                refine jg_adr _ rfl _ rfl rfl (op_oload ty3 (.base rfl) rfl rfl ln42_0) ?_
                refine jg_adr _ rfl _ rfl rfl (op_call (num13_ok _) (.cons (.base rfl) .nil) rfl rfl) ?_
                refine jg_adr _ rfl _ rfl rfl (op_not (.base rfl)) ?_
                refine jg_adr _ rfl _ rfl rfl (op_move (.base rfl)) ?_
                refine jg_gd _ _ _ _ _ _ rfl rfl rfl rfl rfl (fun hg => op_ofield fld42_0 (.base rfl)) ?_
                refine jg_gd _ _ _ _ _ _ rfl rfl rfl rfl rfl (fun hg => op_oload ty3 (.gd rfl hg) rfl rfl ln42_0) ?_
                refine jg_gd _ _ _ _ _ _ rfl rfl rfl rfl rfl (fun hg => op_neq (.gd rfl hg) (.base rfl)) ?_
                refine jg_adr _ rfl _ rfl rfl (op_pick_and (.base rfl) (.base rfl) rfl (by intro h; first | (rw [h]; rfl) | (rw [hg, h]; rfl) | (rw [h, hg]; rfl) | simp_all)) ?_
                refine jg_nil ?_
                refine jn_keep [0, 4, 5, 6, 108] [4, 5, 6] (.cons rfl (.cons rfl (.cons rfl (.cons rfl (.cons rfl .nil))))) (.cons rfl (.cons rfl (.cons rfl .nil))) ?_
                refine jn_seq ?_
                refine j_cond rfl (fun h20 => ?_) (fun h20 => ?_)
                · exfalso; have := hn (by omega); simp [isNumber] at h20; omega
                · try simp at h20
                  refine j_skip (jn_seq (j_seq (j_seq ?_)))
                  refine j_region ?_
                  refine jg_adr _ rfl _ rfl rfl (op_move (.base rfl)) ?_
                  refine jg_nil ?_
                  refine jn_keep [0, 4, 5, 6, 110] [4, 5, 6] (.cons rfl (.cons rfl (.cons rfl (.cons rfl (.cons rfl .nil))))) (.cons rfl (.cons rfl (.cons rfl .nil))) ?_
                  refine jn_seq (j_block (j_seq ?_))
                  refine j_region ?_
                  refine jg_adr _ rfl _ rfl rfl (op_eql (.base rfl) (.base rfl)) ?_
                  refine jg_adr _ rfl _ rfl rfl (op_assign (.base rfl)) ?_
                  refine jg_nil ?_
                  refine jn_keep [0, 4, 5, 6, 110, 111] [4, 5, 6] (.cons rfl (.cons rfl (.cons rfl (.cons rfl (.cons rfl (.cons rfl .nil)))))) (.cons rfl (.cons rfl (.cons rfl .nil))) ?_
                  refine jn_seq ?_
                  refine j_cond rfl (fun h23 => ?_) (fun h23 => ?_)
                  · have h23 : op = 21 := by simpa using h23
                    refine j_seq ?_
                    refine j_region ?_
                    refine jg_adr _ rfl _ rfl rfl (op_ofield fld42_2 (.base rfl)) ?_
                    refine jg_adr _ rfl _ rfl rfl (op_oload ty3 (.base rfl) rfl rfl ln42_2) ?_
                    refine jg_adr _ rfl _ rfl rfl (op_ofield fld42_2 (.base rfl)) ?_
                    refine jg_adr _ rfl _ rfl rfl (op_oload ty3 (.base rfl) rfl rfl ln42_2) ?_
                    refine jg_adr _ rfl _ rfl rfl (op_lss (.base rfl) (.base rfl)) ?_
                    refine jg_adr _ rfl _ rfl rfl (op_call (truth_ok _) (.cons (.base rfl) .nil) rfl rfl) ?_
                    refine jg_adr _ rfl _ rfl rfl (op_ext20 (.base rfl)) ?_
                    refine jg_adr _ rfl _ rfl rfl (op_ext21 (.base rfl)) ?_
                    refine jg_os _ rfl (op_ostore ty42 (.base rfl) rfl rfl (Lens.id _) (.tv (.base rfl))) ?_
                    refine jg_adr _ rfl _ rfl rfl (op_assign (.base rfl)) ?_
                    refine jg_nil ?_
                    refine jn_keep [6, 7] [6] (.cons rfl (.cons rfl .nil)) (.cons rfl .nil) ?_
                    refine jn_seq (j_ret (jr_blk (jr_seq ?_)))
                    exact jr_fin2 Tryz.results90 (res_cell ty42 rfl rfl rfl (Lens.id rValue)) (res_tmp rfl) ⟨rfl, rfl⟩ (svVE_eq (by unfold cmpV; rw [if_neg h4, if_neg h6, if_pos h23]) (rfl))
                  · have h23 : ¬ op = 21 := by simpa using h23
                    refine j_seq ?_
                    refine j_region ?_
                    refine jg_adr _ rfl _ rfl rfl (op_eql (.base rfl) (.base rfl)) ?_
                    refine jg_adr _ rfl _ rfl rfl (op_assign (.base rfl)) ?_
                    refine jg_nil ?_
                    refine jn_keep [0, 4, 5, 6, 121] [4, 5, 6] (.cons rfl (.cons rfl (.cons rfl (.cons rfl (.cons rfl .nil))))) (.cons rfl (.cons rfl (.cons rfl .nil))) ?_
                    refine jn_seq ?_
                    refine j_cond rfl (fun h25 => ?_) (fun h25 => ?_)
                    · skip
                      refine j_seq ?_
                      refine j_region ?_
                      refine jg_adr _ rfl _ rfl rfl (op_ofield fld42_2 (.base rfl)) ?_
                      refine jg_adr _ rfl _ rfl rfl (op_oload ty3 (.base rfl) rfl rfl ln42_2) ?_
                      refine jg_adr _ rfl _ rfl rfl (op_ofield fld42_2 (.base rfl)) ?_
                      refine jg_adr _ rfl _ rfl rfl (op_oload ty3 (.base rfl) rfl rfl ln42_2) ?_
                      refine jg_adr _ rfl _ rfl rfl (op_leq (.base rfl) (.base rfl)) ?_
                      refine jg_adr _ rfl _ rfl rfl (op_call (truth_ok _) (.cons (.base rfl) .nil) rfl rfl) ?_
                      refine jg_adr _ rfl _ rfl rfl (op_ext20 (.base rfl)) ?_
                      refine jg_adr _ rfl _ rfl rfl (op_ext21 (.base rfl)) ?_
                      refine jg_os _ rfl (op_ostore ty42 (.base rfl) rfl rfl (Lens.id _) (.tv (.base rfl))) ?_
                      refine jg_adr _ rfl _ rfl rfl (op_assign (.base rfl)) ?_
                      refine jg_nil ?_
                      refine jn_keep [6, 7] [6] (.cons rfl (.cons rfl .nil)) (.cons rfl .nil) ?_
                      refine jn_seq (j_ret (jr_blk (jr_seq ?_)))
                      exact jr_fin2 Tryz.results90 (res_cell ty42 rfl rfl rfl (Lens.id rValue)) (res_tmp rfl) ⟨rfl, rfl⟩ (svVE_eq (by unfold cmpV; rw [if_neg h4, if_neg h6, if_neg h23]) (rfl))
                    · exfalso; simp at h25; omega

theorem double_ok (d : TNode) (a b : TValue) (ho : 19 ≤ d.1 ∧ d.1 ≤ 22) (hk : a.1 = b.1 ∧ a.2.1 = b.2.1) (hn : 21 ≤ d.1 → 2 ≤ a.1 ∧ a.1 ≤ 5) : Ct Tryz.prog 67 [.tv rNode d, .tv rValue a, .tv rValue b] (svVE (cmpV d.1 a b)) := by
  refine ct_intro Tryz.func67 rfl rfl Tryz.ntmps67 rfl rfl ?_
  intro w0 ok0
  refine j_seq ?_
  refine j_region ?_
  refine jg_os _ rfl (op_box (.tv (.base rfl)) rfl rfl rfl) ?_
  refine jg_os _ rfl (op_box (.tv (.base rfl)) rfl rfl rfl) ?_
  refine jg_os _ rfl (op_box (.tv (.base rfl)) rfl rfl rfl) ?_
  refine jg_os _ rfl (op_alloc _ z42 rfl rfl rfl) ?_
  refine jg_adr _ rfl _ rfl rfl (op_assign (.base rfl)) ?_
  refine jg_nil ?_
  refine jn_keep [3, 4, 5, 6] [3, 4, 5, 6] (.cons rfl (.cons rfl (.cons rfl (.cons rfl .nil)))) (.cons rfl (.cons rfl (.cons rfl (.cons rfl .nil)))) ?_
  refine jn_seq (j_seq (j_seq ?_))
  refine j_region ?_
  refine jg_adr _ rfl _ rfl rfl (op_ofield fld56_0 (.base rfl)) ?_
  refine jg_adr _ rfl _ rfl rfl (op_oload ty3 (.base rfl) rfl rfl ln56_0) ?_
  refine jg_adr _ rfl _ rfl rfl (op_geq (.base rfl) (.base rfl)) ?_
  refine jg_adr _ rfl _ rfl rfl (op_move (.base rfl)) ?_
  refine jg_gd _ _ _ _ _ _ rfl rfl rfl rfl rfl (fun hg => op_ofield fld56_0 (.base rfl)) ?_
  refine jg_gd _ _ _ _ _ _ rfl rfl rfl rfl rfl (fun hg => op_oload ty3 (.gd rfl hg) rfl rfl ln56_0) ?_
  refine jg_gd _ _ _ _ _ _ rfl rfl rfl rfl rfl (fun hg => op_leq (.gd rfl hg) (.base rfl)) ?_
  refine jg_adr _ rfl _ rfl rfl (op_pick_and (.base rfl) (.base rfl) rfl (by intro h; first | (rw [h]; rfl) | (rw [hg, h]; rfl) | (rw [h, hg]; rfl) | simp_all)) ?_
  refine jg_nil ?_
  refine jn_keep [3, 4, 5, 6, 15] [3, 4, 5, 6] (.cons rfl (.cons rfl (.cons rfl (.cons rfl (.cons rfl .nil))))) (.cons rfl (.cons rfl (.cons rfl (.cons rfl .nil)))) ?_
  refine jn_seq ?_
  refine j_cond rfl (fun h1 => ?_) (fun h1 => ?_)
  · exfalso; simp at h1; omega
  · try simp at h1
    refine j_skip (jn_seq (j_seq (j_seq ?_)))
    refine j_region ?_
    refine jg_adr _ rfl _ rfl rfl (op_ofield fld56_0 (.base rfl)) ?_
    refine jg_adr _ rfl _ rfl rfl (op_oload ty3 (.base rfl) rfl rfl ln56_0) ?_
    refine jg_adr _ rfl _ rfl rfl (op_geq (.base rfl) (.base rfl)) ?_
    refine jg_nil ?_
    refine jn_keep [3, 4, 5, 6, 24] [3, 4, 5, 6] (.cons rfl (.cons rfl (.cons rfl (.cons rfl (.cons rfl .nil))))) (.cons rfl (.cons rfl (.cons rfl (.cons rfl .nil)))) ?_
    refine jn_seq ?_
    refine j_cond rfl (fun h3 => ?_) (fun h3 => ?_)
    · exfalso; simp at h3; omega
    · try simp at h3
      refine j_skip (jn_seq (j_seq ?_))
      refine j_region ?_
      refine jg_adr _ rfl _ rfl rfl (op_ofield fld56_0 (.base rfl)) ?_
      refine jg_adr _ rfl _ rfl rfl (op_oload ty3 (.base rfl) rfl rfl ln56_0) ?_
      refine jg_adr _ rfl _ rfl rfl (op_oload ty42 (.base rfl) rfl rfl (Lens.id _)) ?_
      refine jg_adr _ rfl _ rfl rfl (op_oload ty42 (.base rfl) rfl rfl (Lens.id _)) ?_
      refine jg_adr _ rfl _ rfl rfl (op_call (compared_ok _ _ _ ho hk hn) (.cons (.base rfl) (.cons (.base rfl) (.cons (.base rfl) .nil))) rfl rfl) ?_
      refine jg_adr _ rfl _ rfl rfl (op_ext20 (.base rfl)) ?_
      refine jg_adr _ rfl _ rfl rfl (op_ext21 (.base rfl)) ?_
      refine jg_os _ rfl (op_ostore ty42 (.base rfl) rfl rfl (Lens.id _) (.tv (.base rfl))) ?_
      refine jg_adr _ rfl _ rfl rfl (op_assign (.base rfl)) ?_
      refine jg_nil ?_
      refine jn_keep [6, 7] [6] (.cons rfl (.cons rfl .nil)) (.cons rfl .nil) ?_
      refine jn_seq (j_ret ?_)
      exact jr_fin2 Tryz.results67 (res_cell ty42 rfl rfl rfl (Lens.id rValue)) (res_tmp rfl) ⟨rfl, rfl⟩ (svVE_eq (rfl) (rfl))


/-- what a flat guard's node asks of its operands' values -/
inductive Ap (d : TNode) (x : List TValue) : List TValue → Prop
  | leaf (ho : 1 ≤ d.1 ∧ d.1 ≤ 7) (hI : d.1 = 7 → 0 ≤ d.2 ∧ d.2 < (x.length : Int)) (hE : d.1 = 6 → 0 ≤ d.2) (hp : plaus (leafV d x) = true) : Ap d x []
  | not (a : TValue) (ho : d.1 = 25) (hk : a.1 = 1) (hp : plaus a = true) : Ap d x [a]
  | cmp (a b : TValue) (ho : 19 ≤ d.1 ∧ d.1 ≤ 22) (hk : a.1 = b.1 ∧ a.2.1 = b.2.1) (hn : 21 ≤ d.1 → 2 ≤ a.1 ∧ a.1 ≤ 5) (hp : plaus a = true) (hq : plaus b = true) : Ap d x [a, b]
theorem Ap.op {d : TNode} {x args : List TValue} (h : Ap d x args) : (1 ≤ d.1 ∧ d.1 ≤ 7) ∨ d.1 = 25 ∨ (19 ≤ d.1 ∧ d.1 ≤ 22) := by cases h <;> omega
theorem Ap.i7 {d : TNode} {x args : List TValue} (h : Ap d x args) (h7 : d.1 = 7) : 0 ≤ d.2 ∧ d.2 < (x.length : Int) := by
  cases h with
  | leaf ho hI hE hp => exact hI h7
  | _ => omega
theorem Ap.e6 {d : TNode} {x args : List TValue} (h : Ap d x args) (h6 : d.1 = 6) : 0 ≤ d.2 := by
  cases h with
  | leaf ho hI hE hp => exact hE h6
  | _ => omega
theorem Ap.pl {d : TNode} {x args : List TValue} (h : Ap d x args) : args.length ≤ 2 ∧ ∀ v ∈ args, plaus v = true := by
  cases h with
  | leaf ho hI hE hp => simp
  | not a ho hk hp => simpa using hp
  | cmp a b ho hk hn hp hq => simp [hp, hq]
theorem Ap.ar {d : TNode} {x args : List TValue} (h : Ap d x args) : arity d.1 = (args.length : Int) := by
  cases h with
  | leaf ho hI hE hp =>
    have : d.1 = 1 ∨ d.1 = 2 ∨ d.1 = 3 ∨ d.1 = 4 ∨ d.1 = 5 ∨ d.1 = 6 ∨ d.1 = 7 := by omega
    unfold arity; rcases this with q | q | q | q | q | q | q <;> rw [q] <;> rfl
  | not a ho hk hp => unfold arity; rw [ho]; rfl
  | cmp a b ho hk hn hp hq =>
    have : d.1 = 19 ∨ d.1 = 20 ∨ d.1 = 21 ∨ d.1 = 22 := by omega
    unfold arity; rcases this with q | q | q | q <;> rw [q] <;> rfl

end Go.Proofs.YtgoggdaohdablaaGreat
