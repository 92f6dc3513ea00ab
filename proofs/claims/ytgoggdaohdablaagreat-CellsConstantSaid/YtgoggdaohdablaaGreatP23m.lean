import Derived.Test.YtgoggdaohdablaaGreatP23k
namespace Go.Proofs.YtgoggdaohdablaaGreat
open Go.Eng
set_option maxRecDepth 100000
set_option maxHeartbeats 4000000
set_option linter.unusedVariables false
set_option linter.unusedSimpArgs false


theorem Ap.nil {d : TNode} {x : List TValue} (h : Ap d x []) : (1 ≤ d.1 ∧ d.1 ≤ 7) ∧ (d.1 = 7 → 0 ≤ d.2 ∧ d.2 < (x.length : Int)) ∧ (d.1 = 6 → 0 ≤ d.2) ∧ plaus (leafV d x) = true := by
  cases h with
  | leaf ho hI hE hp => exact ⟨ho, hI, hE, hp⟩
theorem Ap.one {d : TNode} {x : List TValue} {a : TValue} (h : Ap d x [a]) : d.1 = 25 ∧ a.1 = 1 := by
  cases h with
  | not a ho hk hp => exact ⟨ho, hk⟩
theorem Ap.two {d : TNode} {x : List TValue} {a b : TValue} (h : Ap d x [a, b]) : (19 ≤ d.1 ∧ d.1 ≤ 22) ∧ (a.1 = b.1 ∧ a.2.1 = b.2.1) ∧ (21 ≤ d.1 → 2 ≤ a.1 ∧ a.1 ≤ 5) := by
  cases h with
  | cmp a b ho hk hn hp hq => exact ⟨ho, hk, hn⟩

theorem apply_ok (d : TNode) (args : List TValue) (env : TEnv) (hA : Ap d env.2.1 args) (hN : ¬ (d.2 ≠ 0 ∧ usesN d.1 = false)) : Ct Tryz.prog 40 [.tv rNode d, .tv (rSlice rValue) args, .tv rEnv env] (svVE (applyF d args env.2.1)) := by
  refine ct_intro Tryz.func40 rfl rfl Tryz.ntmps40 rfl rfl ?_
  intro w0 ok0
  refine j_seq ?_
  refine j_region ?_
  refine jg_os _ rfl (op_box (.tv (.base rfl)) rfl rfl rfl) ?_
  refine jg_os _ rfl (op_box (.tv (.base rfl)) rfl rfl rfl) ?_
  refine jg_os _ rfl (op_alloc _ z42 rfl rfl rfl) ?_
  refine jg_adr _ rfl _ rfl rfl (op_assign (.base rfl)) ?_
  refine jg_nil ?_
  refine jn_keep [1, 3, 5, 6] [3, 5, 6] (.cons rfl (.cons rfl (.cons rfl (.cons rfl .nil)))) (.cons rfl (.cons rfl (.cons rfl .nil))) ?_
  refine jn_seq (j_seq (j_seq ?_))
  refine j_region ?_
  refine jg_adr _ rfl _ rfl rfl (op_oload ty56 (.base rfl) rfl rfl (Lens.id _)) ?_
  refine jg_adr _ rfl _ rfl rfl (op_move (.base rfl)) ?_
  refine jg_adr _ rfl _ rfl rfl (op_len Tryz.underlying32 (.base rfl)) ?_
  refine jg_adr _ rfl _ rfl rfl (op_call (formed_ok _ _ hA.ar hN (by have := hA.op; omega) (fun q => hA.e6 q)) (.cons (.base rfl) (.cons (.base rfl) .nil)) rfl rfl) ?_
  refine jg_adr _ rfl _ rfl rfl (op_not (.base rfl)) ?_
  refine jg_nil ?_
  refine jn_keep [1, 3, 5, 6, 16] [3, 5, 6] (.cons rfl (.cons rfl (.cons rfl (.cons rfl (.cons rfl .nil))))) (.cons rfl (.cons rfl (.cons rfl .nil))) ?_
  refine jn_seq ?_
  refine j_cond rfl (fun h1 => ?_) (fun h1 => ?_)
  · exfalso; simp at h1
  · try simp at h1
    refine j_skip (jn_seq (j_seq (j_seq ?_)))
    refine j_region ?_
    refine jg_adr _ rfl _ rfl rfl (op_oload ty56 (.base rfl) rfl rfl (Lens.id _)) ?_
    refine jg_adr _ rfl _ rfl rfl (op_oload ty48 (.base rfl) rfl rfl (Lens.id _)) ?_
    refine jg_adr _ rfl _ rfl rfl (op_call (found_ok _ _ (fun q => hA.i7 q) (by have := hA.op; omega)) (.cons (.base rfl) (.cons (.base rfl) .nil)) rfl rfl) ?_
    refine jg_adr _ rfl _ rfl rfl (op_not (.base rfl)) ?_
    refine jg_nil ?_
    refine jn_keep [1, 3, 5, 6, 21] [3, 5, 6] (.cons rfl (.cons rfl (.cons rfl (.cons rfl (.cons rfl .nil))))) (.cons rfl (.cons rfl (.cons rfl .nil))) ?_
    refine jn_seq ?_
    refine j_cond rfl (fun h3 => ?_) (fun h3 => ?_)
    · exfalso; simp at h3
    · try simp at h3
      refine j_skip (jn_seq (j_seq (j_seq ?_)))
      refine j_region ?_
      refine jg_adr _ rfl _ rfl rfl (op_assign (.base rfl)) ?_
      refine jg_nil ?_
      refine jn_keep [1, 3, 5, 6, 8] [3, 5, 6] (.cons rfl (.cons rfl (.cons rfl (.cons rfl (.cons rfl .nil))))) (.cons rfl (.cons rfl (.cons rfl .nil))) ?_
      refine jn_seq (j_block ?_)
      refine j_loopp (ι := Nat) (fun k => ⟨[(1, .tv (rSlice rValue) args), (3, .optr 3 rNode.n 0 0), (5, .optr 5 rEnv.n 0 0), (6, .optr 6 rValue.n 0 0), (8, .raw (.int .i64 ((k : Nat))))], [(3, ⟨rNode, [d]⟩), (5, ⟨rEnv, [env]⟩), (6, ⟨rValue, [(0, 0, 0)]⟩)]⟩) (fun k => k ≤ args.length) (fun k => args.length - k) 0 (Nat.zero_le _) (fun a w hi => (Sub.inv ⟨(by repeat (first | exact SubS_nil | refine SubS_cons rfl (by first | rfl | (simp; done) | assumption) ?_)), (by repeat (first | exact SubH_nil | refine SubH_cons rfl (by first | rfl | (simp; done) | assumption) ?_))⟩ hi)) ?_
      rintro k hk
      have hl2 := hA.pl.1
      refine j_seq (j_seq ?_)
      refine j_region ?_
      refine jg_adr _ rfl _ rfl rfl (op_move (.base rfl)) ?_
      refine jg_adr _ rfl _ rfl rfl (op_move (.base rfl)) ?_
      refine jg_adr _ rfl _ rfl rfl (op_len Tryz.underlying32 (.base rfl)) ?_
      refine jg_adr _ rfl _ rfl rfl (op_lss (.base rfl) (.base rfl)) ?_
      refine jg_nil ?_
      refine jn_keep [1, 3, 5, 6, 8, 26] [3, 5, 6] (.cons rfl (.cons rfl (.cons rfl (.cons rfl (.cons rfl (.cons rfl .nil)))))) (.cons rfl (.cons rfl (.cons rfl .nil))) ?_
      refine jn_seq ?_
      refine j_cond rfl (fun h6 => ?_) (fun h6 => ?_)
      · simp at h6
        refine j_skip (jn_seq (j_seq (j_block (j_seq ?_))))
        refine j_region ?_
        refine jg_adr _ rfl _ rfl rfl (op_move (.base rfl)) ?_
        refine jg_adr _ rfl _ rfl rfl (op_move (.base rfl)) ?_
        refine jg_adr _ rfl _ rfl rfl (op_index Tryz.underlying32 ty42 (.base rfl) (.base rfl) rfl (List.getElem?_eq_getElem (by first | omega | (simp; done) | (simp; omega) | (simp at hg; omega)))) ?_
        refine jg_adr _ rfl _ rfl rfl (op_load ty42 (.base rfl)) ?_
        refine jg_adr _ rfl _ rfl rfl (op_call (plaus_ok _) (.cons (.base rfl) .nil) rfl rfl) ?_
        refine jg_adr _ rfl _ rfl rfl (op_not (.base rfl)) ?_
        refine jg_nil ?_
        refine jn_keep [1, 3, 5, 6, 8, 34] [3, 5, 6] (.cons rfl (.cons rfl (.cons rfl (.cons rfl (.cons rfl (.cons rfl .nil)))))) (.cons rfl (.cons rfl (.cons rfl .nil))) ?_
        refine jn_seq ?_
        refine j_cond rfl (fun h8 => ?_) (fun h8 => ?_)
        · exfalso; have hq := hA.pl.2 _ (List.getElem_mem h6); simp [List.getElem?_eq_getElem h6] at h8; rw [hq] at h8; cases h8
        · try simp at h8
          refine j_skip (jn_blk (jn_seq ?_))
          refine j_region ?_
          refine jg_adr _ rfl _ rfl rfl (op_move (.base rfl)) ?_
          refine jg_adr _ rfl _ rfl rfl (op_add (.base rfl) (.base rfl) (w64 (by omega))) ?_
          refine jg_adr _ rfl _ rfl rfl (op_assign (.base rfl)) ?_
          refine jg_nil ?_
          refine jn_keep [1, 3, 5, 6, 8] [3, 5, 6] (.cons rfl (.cons rfl (.cons rfl (.cons rfl (.cons rfl .nil))))) (.cons rfl (.cons rfl (.cons rfl .nil))) ?_
          exact jn_loop (fun a w hi => ⟨k + 1, (by first | omega | (simp; omega)), (by omega), (Sub.inv ⟨(by repeat (first | exact SubS_nil | refine SubS_cons rfl (by first | rfl | (simp; done) | assumption) ?_)), (by repeat (first | exact SubH_nil | refine SubH_cons rfl (by first | rfl | (simp; done) | assumption) ?_))⟩ hi)⟩)
      · simp at h6
        refine j_exit (je_seq (je_loop (je_blk (jn_seq (j_seq (j_seq ?_))))))
        refine j_region ?_
        refine jg_adr _ rfl _ rfl rfl (op_move (.base rfl)) ?_
        refine jg_adr _ rfl _ rfl rfl (op_len Tryz.underlying32 (.base rfl)) ?_
        refine jg_nil ?_
        refine jn_keep [1, 3, 5, 6, 37] [3, 5, 6] (.cons rfl (.cons rfl (.cons rfl (.cons rfl (.cons rfl .nil))))) (.cons rfl (.cons rfl (.cons rfl .nil))) ?_
        refine jn_seq (j_block (j_seq ?_))
        refine j_region ?_
        refine jg_adr _ rfl _ rfl rfl (op_eql (.base rfl) (.base rfl)) ?_
        refine jg_adr _ rfl _ rfl rfl (op_assign (.base rfl)) ?_
        refine jg_nil ?_
        refine jn_keep [1, 3, 5, 6, 37, 38] [3, 5, 6] (.cons rfl (.cons rfl (.cons rfl (.cons rfl (.cons rfl (.cons rfl .nil)))))) (.cons rfl (.cons rfl (.cons rfl .nil))) ?_
        refine jn_seq ?_
        refine j_cond rfl (fun h11 => ?_) (fun h11 => ?_)
        · have h11 : args.length = 0 := by simp at h11; simp [h11]
          obtain rfl : args = [] := List.length_eq_zero_iff.1 h11
          obtain ⟨ho, hI, hE, hp⟩ := hA.nil
          refine j_seq (j_seq ?_)
          refine j_region ?_
          refine jg_adr _ rfl _ rfl rfl (op_ofield fld56_0 (.base rfl)) ?_
          refine jg_adr _ rfl _ rfl rfl (op_oload ty3 (.base rfl) rfl rfl ln56_0) ?_
          refine jg_adr _ rfl _ rfl rfl (op_geq (.base rfl) (.base rfl)) ?_
          refine jg_adr _ rfl _ rfl rfl (op_move (.base rfl)) ?_
          refine jg_gd _ _ _ _ _ _ rfl rfl rfl rfl rfl (fun hg => op_ofield fld56_0 (.base rfl)) ?_
          refine jg_gd _ _ _ _ _ _ rfl rfl rfl rfl rfl (fun hg => op_oload ty3 (.gd rfl hg) rfl rfl ln56_0) ?_
          refine jg_gd _ _ _ _ _ _ rfl rfl rfl rfl rfl (fun hg => op_leq (.gd rfl hg) (.base rfl)) ?_
          refine jg_adr _ rfl _ rfl rfl (op_pick_and (.base rfl) (.base rfl) rfl (by intro h; first | (rw [h]; rfl) | (rw [hg, h]; rfl) | (rw [h, hg]; rfl) | simp_all)) ?_
          refine jg_nil ?_
          refine jn_keep [3, 5, 6, 47] [3, 5, 6] (.cons rfl (.cons rfl (.cons rfl (.cons rfl .nil)))) (.cons rfl (.cons rfl (.cons rfl .nil))) ?_
          refine jn_seq ?_
          refine j_cond rfl (fun h12 => ?_) (fun h12 => ?_)
          · exfalso; simp at h12; omega
          · try simp at h12
            refine j_skip (jn_seq (j_seq ?_))
            refine j_region ?_
            refine jg_adr _ rfl _ rfl rfl (op_oload ty56 (.base rfl) rfl rfl (Lens.id _)) ?_
            refine jg_adr _ rfl _ rfl rfl (op_oload ty48 (.base rfl) rfl rfl (Lens.id _)) ?_
            refine jg_adr _ rfl _ rfl rfl (op_call (literal_ok _ _ hI ho hE hp) (.cons (.base rfl) (.cons (.base rfl) .nil)) rfl rfl) ?_
            refine jg_adr _ rfl _ rfl rfl (op_ext20 (.base rfl)) ?_
            refine jg_adr _ rfl _ rfl rfl (op_ext21 (.base rfl)) ?_
            refine jg_os _ rfl (op_ostore ty42 (.base rfl) rfl rfl (Lens.id _) (.tv (.base rfl))) ?_
            refine jg_adr _ rfl _ rfl rfl (op_assign (.base rfl)) ?_
            refine jg_nil ?_
            refine jn_keep [6, 7] [6] (.cons rfl (.cons rfl .nil)) (.cons rfl .nil) ?_
            refine jn_seq (j_ret (jr_blk (jr_seq ?_)))
            exact jr_fin2 Tryz.results40 (res_cell ty42 rfl rfl rfl (Lens.id rValue)) (res_tmp rfl) ⟨rfl, rfl⟩ (svVE_eq (rfl) (rfl))
        · have h11 : ¬ args.length = 0 := by intro q; simp [List.length_eq_zero_iff.1 q] at h11
          refine j_seq ?_
          refine j_region ?_
          refine jg_adr _ rfl _ rfl rfl (op_eql (.base rfl) (.base rfl)) ?_
          refine jg_adr _ rfl _ rfl rfl (op_assign (.base rfl)) ?_
          refine jg_nil ?_
          refine jn_keep [1, 3, 5, 6, 37, 58] [3, 5, 6] (.cons rfl (.cons rfl (.cons rfl (.cons rfl (.cons rfl (.cons rfl .nil)))))) (.cons rfl (.cons rfl (.cons rfl .nil))) ?_
          refine jn_seq ?_
          refine j_cond rfl (fun h15 => ?_) (fun h15 => ?_)
          · have h15 : args.length = 1 := by simp at h15; omega
            obtain ⟨a, rfl⟩ := len1' h15
            obtain ⟨ho, hk1⟩ := hA.one
            refine j_seq ?_
            refine j_drawE mo (by kernel_rfl) (
              AE.cons _ _ _ rfl (gh_ga [3] (ga_adr rfl rfl rfl (op_oload ty56 (.base rfl) rfl rfl (Lens.id _))) (by kernel_rfl)) (
              AE.cons _ _ _ rfl (gh_ga [] (ga_adr rfl rfl rfl (op_move (.base rfl))) (by kernel_rfl)) (
              AE.cons _ _ _ rfl (gh_ga [] (ga_adr rfl rfl rfl (op_index Tryz.underlying32 ty42 (.base rfl) (.base rfl) rfl (List.getElem?_eq_getElem (by first | omega | (simp; done) | (simp; omega) | (simp at hg; omega))))) (by kernel_rfl)) (
              AE.cons _ _ _ rfl (gh_ga [] (ga_adr rfl rfl rfl (op_load ty42 (.base rfl))) (by kernel_rfl)) (
              AE.cons _ _ _ rfl (gh_ga [5] (ga_adr rfl rfl rfl (op_oload ty48 (.base rfl) rfl rfl (Lens.id _))) (by kernel_rfl)) (
              AE.cons _ _ _ rfl (gh_ga [] (ga_adr rfl rfl rfl (op_call (single_ok _ _ _ ho hk1) (.cons (.base rfl) (.cons (.base rfl) (.cons (.base rfl) .nil))) rfl rfl)) (by kernel_rfl)) (
              AE.cons _ _ _ rfl (gh_ga [] (ga_adr rfl rfl rfl (op_ext20 (.base rfl))) (by kernel_rfl)) (
              AE.cons _ _ _ rfl (gh_ga [] (ga_adr rfl rfl rfl (op_ext21 (.base rfl))) (by kernel_rfl)) (
              AE.cons _ _ _ rfl (gh_store ty42 (.base rfl) rfl rfl (Lens.id _) (.tv (.base rfl))) (
              AE.cons _ _ _ rfl (gh_ga [] (ga_adr rfl rfl rfl (op_assign (.base rfl))) (by kernel_rfl)) (
              AE.nil))))))))))) (by kernel_rfl) ?_
            refine jn_keep [6, 7] [6] (.cons rfl (.cons rfl .nil)) (.cons rfl .nil) ?_
            refine jn_seq (j_ret (jr_blk (jr_seq ?_)))
            exact jr_fin2 Tryz.results40 (res_cell ty42 rfl rfl rfl (Lens.id rValue)) (res_tmp rfl) ⟨rfl, rfl⟩ (svVE_eq (rfl) (rfl))
          · have h15 : ¬ args.length = 1 := by intro q; simp [q] at h15
            refine j_seq ?_
            refine j_region ?_
            refine jg_adr _ rfl _ rfl rfl (op_eql (.base rfl) (.base rfl)) ?_
            refine jg_adr _ rfl _ rfl rfl (op_assign (.base rfl)) ?_
            refine jg_nil ?_
            refine jn_keep [1, 3, 6, 68] [3, 6] (.cons rfl (.cons rfl (.cons rfl (.cons rfl .nil)))) (.cons rfl (.cons rfl .nil)) ?_
            refine jn_seq ?_
            refine j_cond rfl (fun h17 => ?_) (fun h17 => ?_)
            · have h17 : args.length = 2 := by simp at h17; omega
              obtain ⟨a, b, rfl⟩ := len2' h17
              obtain ⟨ho, hk1, hn1⟩ := hA.two
              refine j_seq ?_
              refine j_drawE mo (by kernel_rfl) (
                AE.cons _ _ _ rfl (gh_ga [3] (ga_adr rfl rfl rfl (op_oload ty56 (.base rfl) rfl rfl (Lens.id _))) (by kernel_rfl)) (
                AE.cons _ _ _ rfl (gh_ga [] (ga_adr rfl rfl rfl (op_move (.base rfl))) (by kernel_rfl)) (
                AE.cons _ _ _ rfl (gh_ga [] (ga_adr rfl rfl rfl (op_index Tryz.underlying32 ty42 (.base rfl) (.base rfl) rfl (List.getElem?_eq_getElem (by first | omega | (simp; done) | (simp; omega) | (simp at hg; omega))))) (by kernel_rfl)) (
                AE.cons _ _ _ rfl (gh_ga [] (ga_adr rfl rfl rfl (op_load ty42 (.base rfl))) (by kernel_rfl)) (
                AE.cons _ _ _ rfl (gh_ga [] (ga_adr rfl rfl rfl (op_move (.base rfl))) (by kernel_rfl)) (
                AE.cons _ _ _ rfl (gh_ga [] (ga_adr rfl rfl rfl (op_index Tryz.underlying32 ty42 (.base rfl) (.base rfl) rfl (List.getElem?_eq_getElem (by first | omega | (simp; done) | (simp; omega) | (simp at hg; omega))))) (by kernel_rfl)) (
                AE.cons _ _ _ rfl (gh_ga [] (ga_adr rfl rfl rfl (op_load ty42 (.base rfl))) (by kernel_rfl)) (
                AE.cons _ _ _ rfl (gh_ga [] (ga_adr rfl rfl rfl (op_call (double_ok _ _ _ ho hk1 hn1) (.cons (.base rfl) (.cons (.base rfl) (.cons (.base rfl) .nil))) rfl rfl)) (by kernel_rfl)) (
                AE.cons _ _ _ rfl (gh_ga [] (ga_adr rfl rfl rfl (op_ext20 (.base rfl))) (by kernel_rfl)) (
                AE.cons _ _ _ rfl (gh_ga [] (ga_adr rfl rfl rfl (op_ext21 (.base rfl))) (by kernel_rfl)) (
                AE.cons _ _ _ rfl (gh_store ty42 (.base rfl) rfl rfl (Lens.id _) (.tv (.base rfl))) (
                AE.cons _ _ _ rfl (gh_ga [] (ga_adr rfl rfl rfl (op_assign (.base rfl))) (by kernel_rfl)) (
                AE.nil))))))))))))) (by kernel_rfl) ?_
              refine jn_keep [6, 7] [6] (.cons rfl (.cons rfl .nil)) (.cons rfl .nil) ?_
              refine jn_seq (j_ret (jr_blk (jr_seq ?_)))
              exact jr_fin2 Tryz.results40 (res_cell ty42 rfl rfl rfl (Lens.id rValue)) (res_tmp rfl) ⟨rfl, rfl⟩ (svVE_eq (rfl) (rfl))
            · exfalso; simp at h17; omega

theorem lazy_ok (e : List TNode) (i : Nat) (a b : Int) (env : TEnv) (va vb : TValue) (h : i < e.length) (ho : e[i].1 = 23 ∨ e[i].1 = 24) (hz : e[i].2 = 0) (hva : Ct Tryz.prog 26 [.tv (rSlice rNode) e, .raw (.int .i64 a), .tv rEnv env] (svVE (va))) (hvb : Ct Tryz.prog 26 [.tv (rSlice rNode) e, .raw (.int .i64 b), .tv rEnv env] (svVE (vb))) (ka : va.1 = 1) (pa : plaus va = true) (kb : vb.1 = 1) (pb : plaus vb = true) : Ct Tryz.prog 39 [.tv (rSlice rNode) e, .raw (.int .i64 (i : Nat)), .tv (rSlice (rInt .i64)) [a, b], .tv rEnv env] (svVE (lazyF e[i].1 va vb)) := by
  refine ct_intro Tryz.func39 rfl rfl Tryz.ntmps39 rfl rfl ?_
  intro w0 ok0
  refine j_seq ?_
  refine j_region ?_
  refine jg_os _ rfl (op_box (.tv (.base rfl)) rfl rfl rfl) ?_
  refine jg_os _ rfl (op_alloc _ z42 rfl rfl rfl) ?_
  refine jg_adr _ rfl _ rfl rfl (op_assign (.base rfl)) ?_
  refine jg_nil ?_
  refine jn_keep [0, 1, 2, 7, 8] [7, 8] (.cons rfl (.cons rfl (.cons rfl (.cons rfl (.cons rfl .nil))))) (.cons rfl (.cons rfl .nil)) ?_
  refine jn_seq (j_seq (j_seq ?_))
  refine j_region ?_
  refine jg_adr _ rfl _ rfl rfl (op_move (.base rfl)) ?_
  refine jg_adr _ rfl _ rfl rfl (op_move (.base rfl)) ?_
  refine jg_adr _ rfl _ rfl rfl (op_index Tryz.underlying22 ty56 (.base rfl) (.base rfl) rfl (List.getElem?_eq_getElem (by first | omega | (simp; done) | (simp; omega) | (simp at hg; omega)))) ?_
  refine jg_adr _ rfl _ rfl rfl (op_field fld56_1 ln56_1 (.base rfl)) ?_
  refine jg_adr _ rfl _ rfl rfl (op_load ty3 (.base rfl)) ?_
  refine jg_adr _ rfl _ rfl rfl (op_neq (.base rfl) (.base rfl)) ?_
  refine jg_nil ?_
  refine jn_keep [0, 1, 2, 7, 8, 19] [7, 8] (.cons rfl (.cons rfl (.cons rfl (.cons rfl (.cons rfl (.cons rfl .nil)))))) (.cons rfl (.cons rfl .nil)) ?_
  refine jn_seq ?_
  refine j_cond rfl (fun h1 => ?_) (fun h1 => ?_)
  · exfalso; simp [List.getElem?_eq_getElem h] at h1; exact h1 hz
  · try simp at h1
    refine j_skip (jn_seq (j_seq ?_))
    refine j_drawE mo (by kernel_rfl) (
      AE.cons _ _ _ rfl (gh_ga [] (ga_adr rfl rfl rfl (op_move (.base rfl))) (by kernel_rfl)) (
      AE.cons _ _ _ rfl (gh_ga [] (ga_adr rfl rfl rfl (op_move (.base rfl))) (by kernel_rfl)) (
      AE.cons _ _ _ rfl (gh_ga [] (ga_adr rfl rfl rfl (op_index Tryz.underlying28 ty3 (.base rfl) (.base rfl) rfl (List.getElem?_eq_getElem (by first | omega | (simp; done) | (simp; omega) | (simp at hg; omega))))) (by kernel_rfl)) (
      AE.cons _ _ _ rfl (gh_ga [] (ga_adr rfl rfl rfl (op_load ty3 (.base rfl))) (by kernel_rfl)) (
      AE.cons _ _ _ rfl (gh_ga [7] (ga_adr rfl rfl rfl (op_oload ty48 (.base rfl) rfl rfl (Lens.id _))) (by kernel_rfl)) (
      AE.cons _ _ _ rfl (gh_ga [] (ga_adr rfl rfl rfl (op_call hva (.cons (.base rfl) (.cons (.base rfl) (.cons (.base rfl) .nil))) rfl rfl)) (by kernel_rfl)) (
      AE.cons _ _ _ rfl (gh_ga [] (ga_adr rfl rfl rfl (op_move (.base rfl))) (by kernel_rfl)) (
      AE.cons _ _ _ rfl (gh_ga [] (ga_adr rfl rfl rfl (op_ext20 (.base rfl))) (by kernel_rfl)) (
      AE.cons _ _ _ rfl (gh_ga [] (ga_adr rfl rfl rfl (op_ext21 (.base rfl))) (by kernel_rfl)) (
      AE.cons _ _ _ rfl (gh_alloc _ z42 rfl) (
      AE.cons _ _ _ rfl (gh_store ty42 (.base rfl) rfl rfl (Lens.id _) (.tv (.base rfl))) (
      AE.cons _ _ _ rfl (gh_ga [] (ga_adr rfl rfl rfl (op_assign (.base rfl))) (by kernel_rfl)) (
      AE.nil))))))))))))) (by kernel_rfl) ?_
    refine jn_keep [0, 1, 2, 7, 8, 10, 11] [7, 8, 10] (.cons rfl (.cons rfl (.cons rfl (.cons rfl (.cons rfl (.cons rfl (.cons rfl .nil))))))) (.cons rfl (.cons rfl (.cons rfl .nil))) ?_
    refine jn_seq (j_seq (j_seq ?_))
    refine j_region ?_
    refine jg_adr _ rfl _ rfl rfl (op_move (.base rfl)) ?_
    refine jg_adr _ rfl _ rfl rfl (op_neq (.base rfl) (.base rfl)) ?_
    refine jg_nil ?_
    refine jn_keep [0, 1, 2, 7, 8, 10, 11, 31] [7, 8, 10] (.cons rfl (.cons rfl (.cons rfl (.cons rfl (.cons rfl (.cons rfl (.cons rfl (.cons rfl .nil)))))))) (.cons rfl (.cons rfl (.cons rfl .nil))) ?_
    refine jn_seq ?_
    refine j_cond rfl (fun h4 => ?_) (fun h4 => ?_)
    · exfalso; simp at h4
    · try simp at h4
      refine j_skip (jn_seq (j_seq (j_seq ?_)))
      refine j_region ?_
      refine jg_adr _ rfl _ rfl rfl (op_ofield fld42_0 (.base rfl)) ?_
      refine jg_adr _ rfl _ rfl rfl (op_oload ty3 (.base rfl) rfl rfl ln42_0) ?_
      refine jg_adr _ rfl _ rfl rfl (op_neq (.base rfl) (.base rfl)) ?_
      refine jg_adr _ rfl _ rfl rfl (op_move (.base rfl)) ?_
      refine jg_gd _ _ _ _ _ _ rfl rfl rfl rfl rfl (fun hg => op_oload ty42 (.base rfl) rfl rfl (Lens.id _)) ?_
      refine jg_gd _ _ _ _ _ _ rfl rfl rfl rfl rfl (fun hg => op_call (plaus_ok _) (.cons (.gd rfl hg) .nil) rfl rfl) ?_
      refine jg_gd _ _ _ _ _ _ rfl rfl rfl rfl rfl (fun hg => op_not (.gd rfl hg)) ?_
      refine jg_adr _ rfl _ rfl rfl (op_pick_or (.base rfl) (.base rfl) rfl (by intro h; first | (rw [h]; rfl) | (rw [hg, h]; rfl) | (rw [h, hg]; rfl) | simp_all)) ?_
      refine jg_nil ?_
      refine jn_keep [0, 1, 2, 7, 8, 10, 41] [7, 8, 10] (.cons rfl (.cons rfl (.cons rfl (.cons rfl (.cons rfl (.cons rfl (.cons rfl .nil))))))) (.cons rfl (.cons rfl (.cons rfl .nil))) ?_
      refine jn_seq ?_
      refine j_cond rfl (fun h6 => ?_) (fun h6 => ?_)
      · exfalso; simp [ka, pa] at h6
      · try simp at h6
        refine j_skip (jn_seq (j_seq (j_seq ?_)))
        refine j_region ?_
        refine jg_adr _ rfl _ rfl rfl (op_move (.base rfl)) ?_
        refine jg_adr _ rfl _ rfl rfl (op_move (.base rfl)) ?_
        refine jg_adr _ rfl _ rfl rfl (op_index Tryz.underlying22 ty56 (.base rfl) (.base rfl) rfl (List.getElem?_eq_getElem (by first | omega | (simp; done) | (simp; omega) | (simp at hg; omega)))) ?_
        refine jg_adr _ rfl _ rfl rfl (op_field fld56_0 ln56_0 (.base rfl)) ?_
        refine jg_adr _ rfl _ rfl rfl (op_load ty3 (.base rfl)) ?_
        refine jg_adr _ rfl _ rfl rfl (op_eql (.base rfl) (.base rfl)) ?_
        refine jg_nil ?_
        refine jn_keep [0, 1, 2, 7, 8, 10, 48] [7, 8, 10] (.cons rfl (.cons rfl (.cons rfl (.cons rfl (.cons rfl (.cons rfl (.cons rfl .nil))))))) (.cons rfl (.cons rfl (.cons rfl .nil))) ?_
        refine jn_seq ?_
        refine j_cond rfl (fun h8 => ?_) (fun h8 => ?_)
        · exfalso; simp [List.getElem?_eq_getElem h] at h8; omega
        · try simp at h8
          refine j_skip (jn_seq (j_seq (j_seq ?_)))
          refine j_draw mo (by kernel_rfl) (
            AS.cons _ _ rfl (ga_adr rfl rfl rfl (op_move (.base rfl))) (
              AS.cons _ _ rfl (ga_adr rfl rfl rfl (op_move (.base rfl))) (
              AS.cons _ _ rfl (ga_adr rfl rfl rfl (op_index Tryz.underlying22 ty56 (.base rfl) (.base rfl) rfl (List.getElem?_eq_getElem (by first | omega | (simp; done) | (simp; omega) | (simp at hg; omega))))) (
              AS.cons _ _ rfl (ga_adr rfl rfl rfl (op_field fld56_0 ln56_0 (.base rfl))) (
              AS.cons _ _ rfl (ga_adr rfl rfl rfl (op_load ty3 (.base rfl))) (
              AS.cons _ _ rfl (ga_adr rfl rfl rfl (op_eql (.base rfl) (.base rfl))) (
              AS.cons _ _ rfl (ga_adr rfl rfl rfl (op_ofield fld42_2 (.base rfl))) (
              AS.cons _ _ rfl (ga_adr rfl rfl rfl (op_oload ty3 (.base rfl) rfl rfl ln42_2)) (
              AS.cons _ _ rfl (ga_adr rfl rfl rfl (op_eql (.base rfl) (.base rfl))) (
              AS.cons _ _ rfl (ga_adr rfl rfl rfl (op_eql_bool Tryz.underlying4 (.base rfl) (.base rfl))) (
              AS.nil))))))))))) ?_
          refine jn_keep [0, 2, 7, 8, 10, 77] [7, 8, 10] (.cons rfl (.cons rfl (.cons rfl (.cons rfl (.cons rfl (.cons rfl .nil)))))) (.cons rfl (.cons rfl (.cons rfl .nil))) ?_
          refine jn_seq ?_
          refine j_cond rfl (fun h12 => ?_) (fun h12 => ?_)
          · have h12 : (decide (e[i].1 = 23) == decide (va.2.2 = 0)) = true := h12
            refine j_seq ?_
            refine j_region ?_
            refine jg_adr _ rfl _ rfl rfl (op_oload ty42 (.base rfl) rfl rfl (Lens.id _)) ?_
            refine jg_os _ rfl (op_ostore ty42 (.base rfl) rfl rfl (Lens.id _) (.tv (.base rfl))) ?_
            refine jg_adr _ rfl _ rfl rfl (op_assign (.base rfl)) ?_
            refine jg_nil ?_
            refine jn_keep [8, 9] [8] (.cons rfl (.cons rfl .nil)) (.cons rfl .nil) ?_
            refine jn_seq (j_ret (jr_seq ?_))
            exact jr_fin2 Tryz.results39 (res_cell ty42 rfl rfl rfl (Lens.id rValue)) (res_tmp rfl) ⟨rfl, rfl⟩ (svVE_eq (by unfold lazyF; rw [if_pos (by simpa using h12)]) (rfl))
          · have h12 : (decide (e[i].1 = 23) == decide (va.2.2 = 0)) = false := h12
            refine j_skip (jn_seq (j_seq ?_))
            refine j_drawE mo (by kernel_rfl) (
              AE.cons _ _ _ rfl (gh_ga [] (ga_adr rfl rfl rfl (op_move (.base rfl))) (by kernel_rfl)) (
              AE.cons _ _ _ rfl (gh_ga [] (ga_adr rfl rfl rfl (op_move (.base rfl))) (by kernel_rfl)) (
              AE.cons _ _ _ rfl (gh_ga [] (ga_adr rfl rfl rfl (op_index Tryz.underlying28 ty3 (.base rfl) (.base rfl) rfl (List.getElem?_eq_getElem (by first | omega | (simp; done) | (simp; omega) | (simp at hg; omega))))) (by kernel_rfl)) (
              AE.cons _ _ _ rfl (gh_ga [] (ga_adr rfl rfl rfl (op_load ty3 (.base rfl))) (by kernel_rfl)) (
              AE.cons _ _ _ rfl (gh_ga [7] (ga_adr rfl rfl rfl (op_oload ty48 (.base rfl) rfl rfl (Lens.id _))) (by kernel_rfl)) (
              AE.cons _ _ _ rfl (gh_ga [] (ga_adr rfl rfl rfl (op_call hvb (.cons (.base rfl) (.cons (.base rfl) (.cons (.base rfl) .nil))) rfl rfl)) (by kernel_rfl)) (
              AE.cons _ _ _ rfl (gh_ga [] (ga_adr rfl rfl rfl (op_move (.base rfl))) (by kernel_rfl)) (
              AE.cons _ _ _ rfl (gh_ga [] (ga_adr rfl rfl rfl (op_ext20 (.base rfl))) (by kernel_rfl)) (
              AE.cons _ _ _ rfl (gh_ga [] (ga_adr rfl rfl rfl (op_ext21 (.base rfl))) (by kernel_rfl)) (
              AE.cons _ _ _ rfl (gh_alloc _ z42 rfl) (
              AE.cons _ _ _ rfl (gh_store ty42 (.base rfl) rfl rfl (Lens.id _) (.tv (.base rfl))) (
              AE.cons _ _ _ rfl (gh_ga [] (ga_adr rfl rfl rfl (op_assign (.base rfl))) (by kernel_rfl)) (
              AE.nil))))))))))))) (by kernel_rfl) ?_
            refine jn_keep [8, 12, 13] [8, 12] (.cons rfl (.cons rfl (.cons rfl .nil))) (.cons rfl (.cons rfl .nil)) ?_
            refine jn_seq (j_seq (j_seq ?_))
            refine j_region ?_
            refine jg_adr _ rfl _ rfl rfl (op_move (.base rfl)) ?_
            refine jg_adr _ rfl _ rfl rfl (op_neq (.base rfl) (.base rfl)) ?_
            refine jg_nil ?_
            refine jn_keep [8, 12, 13, 89] [8, 12] (.cons rfl (.cons rfl (.cons rfl (.cons rfl .nil)))) (.cons rfl (.cons rfl .nil)) ?_
            refine jn_seq ?_
            refine j_cond rfl (fun h15 => ?_) (fun h15 => ?_)
            · exfalso; simp at h15
            · try simp at h15
              refine j_skip (jn_seq (j_seq (j_seq ?_)))
              refine j_region ?_
              refine jg_adr _ rfl _ rfl rfl (op_ofield fld42_0 (.base rfl)) ?_
              refine jg_adr _ rfl _ rfl rfl (op_oload ty3 (.base rfl) rfl rfl ln42_0) ?_
              refine jg_adr _ rfl _ rfl rfl (op_neq (.base rfl) (.base rfl)) ?_
              refine jg_adr _ rfl _ rfl rfl (op_move (.base rfl)) ?_
              refine jg_gd _ _ _ _ _ _ rfl rfl rfl rfl rfl (fun hg => op_oload ty42 (.base rfl) rfl rfl (Lens.id _)) ?_
              refine jg_gd _ _ _ _ _ _ rfl rfl rfl rfl rfl (fun hg => op_call (plaus_ok _) (.cons (.gd rfl hg) .nil) rfl rfl) ?_
              refine jg_gd _ _ _ _ _ _ rfl rfl rfl rfl rfl (fun hg => op_not (.gd rfl hg)) ?_
              refine jg_adr _ rfl _ rfl rfl (op_pick_or (.base rfl) (.base rfl) rfl (by intro h; first | (rw [h]; rfl) | (rw [hg, h]; rfl) | (rw [h, hg]; rfl) | simp_all)) ?_
              refine jg_nil ?_
              refine jn_keep [8, 12, 99] [8, 12] (.cons rfl (.cons rfl (.cons rfl .nil))) (.cons rfl (.cons rfl .nil)) ?_
              refine jn_seq ?_
              refine j_cond rfl (fun h17 => ?_) (fun h17 => ?_)
              · exfalso; simp [kb, pb] at h17
              · try simp at h17
                refine j_skip (jn_seq (j_seq ?_))
                refine j_region ?_
                refine jg_adr _ rfl _ rfl rfl (op_oload ty42 (.base rfl) rfl rfl (Lens.id _)) ?_
                refine jg_os _ rfl (op_ostore ty42 (.base rfl) rfl rfl (Lens.id _) (.tv (.base rfl))) ?_
                refine jg_adr _ rfl _ rfl rfl (op_assign (.base rfl)) ?_
                refine jg_nil ?_
                refine jn_keep [8, 9] [8] (.cons rfl (.cons rfl .nil)) (.cons rfl .nil) ?_
                refine jn_seq (j_ret ?_)
                exact jr_fin2 Tryz.results39 (res_cell ty42 rfl rfl rfl (Lens.id rValue)) (res_tmp rfl) ⟨rfl, rfl⟩ (svVE_eq (by unfold lazyF; rw [if_neg (by intro q; rw [q] at h12; simp at h12)]) (rfl))

end Go.Proofs.YtgoggdaohdablaaGreat
