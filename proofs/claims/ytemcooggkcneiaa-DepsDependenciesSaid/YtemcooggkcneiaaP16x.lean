import Derived.Test.YtemcooggkcneiaaP16o
import Derived.Test.YtemcooggkcneiaaEngV
import Derived.KernelRfl
namespace Go.Proofs.Ytemcooggkcneiaa
open Go.Eng
set_option maxRecDepth 100000
set_option maxHeartbeats 4000000
set_option linter.unusedVariables false
set_option linter.unusedSimpArgs false

theorem node_ok (d : Int) : Ct Try.prog 21 [.raw (.int .i64 d)] (.tv (rSlice rNode) [(8, d)]) := by
  refine ct_intro Try.func21 rfl rfl Try.ntmps21 rfl rfl ?_
  intro w0 ok0
  refine j_seq ?_
  refine j_region ?_
  refine jg_adr _ rfl _ rfl rfl (op_assign (.base rfl)) ?_
  refine jg_nil ?_
  refine jn_keep [0] [] (.cons rfl .nil) .nil ?_
  refine jn_seq (j_seq ?_)
  refine j_region ?_
  refine jg_adr _ rfl _ rfl rfl (op_move (.base rfl)) ?_
  refine jg_adr _ rfl _ rfl rfl (op_build z63 rfl pl63 (.cons (rt' := (rInt .i64)) rfl ln63_0 (.raw (.base rfl) rfl) (.cons (rt' := (rInt .i64)) rfl ln63_1 (.raw (.base rfl) rfl) .nil))) ?_
  refine jg_adr _ rfl _ rfl rfl (op_bslice (rt := rNode) Try.underlying39 ty63 z63 rfl (.cons (.tv (.base rfl)) .nil) rfl rfl) ?_
  refine jg_adr _ rfl _ rfl rfl (op_assign (.base rfl)) ?_
  refine jg_nil ?_
  refine jn_keep [2] [] (.cons rfl .nil) .nil ?_
  refine jn_seq (j_ret ?_)
  exact jr_fin1 Try.results21 (res_tmp rfl) rfl (rfl)


theorem zr_sliceX {α : Type} {e : RT α} : ZR (rSliceX e) [.slice none 0 0] [] := fun _ _ => ⟨none, rfl, by simp [maxLen], fun h => absurd rfl h⟩
abbrev rScopeX : RT TScope := (rPair rStr (rPair (rInt .i64) (rPair (rSlice rField) (rPair (rSlice rField) (rSliceX rRule)))))
theorem weakS : Weak rScopeX rScope := .pair (.refl _) (.pair (.refl _) (.pair (.refl _) (.pair (.refl _) (weak_sliceX _))))
theorem tyX : Ty Try.prog 25 rScopeX := Ty.mk_ Try.underlying25 rfl (by kernel_rfl)
theorem tyXL : Ty Try.prog 23 (rSliceX rRule) := Ty.mk_ Try.underlying23 rfl (by kernel_rfl)
theorem zX : TyZero Try.prog 25 rScopeX ([], 0, [], [], []) := zr_ty (by kernel_rfl) (zr_pair (zr_str) (zr_pair (zr_int .i64) (zr_pair (zr_slice) (zr_pair (zr_slice) (zr_sliceX)))))
theorem lnX_3 : Lens rScopeX 3 (rSlice rField) (fun d => d.2.2.2.1) (fun d x => (d.1, d.2.1, d.2.2.1, x, d.2.2.2.2)) := (Lens.snd (Lens.snd (Lens.snd (Lens.fst (Lens.id (rSlice rField))) rfl) rfl) rfl)
theorem lnX_4 : Lens rScopeX 4 (rSliceX rRule) (fun d => d.2.2.2.2) (fun d x => (d.1, d.2.1, d.2.2.1, d.2.2.2.1, x)) := (Lens.snd (Lens.snd (Lens.snd (Lens.snd (Lens.id (rSliceX rRule)) rfl) rfl) rfl) rfl)
def awR (d v : Int) : TRule := ([], d, 0, 0, (0, 0), [], [(8, v)], [])
def awA : TScope := ([], 0, [], List.replicate 3 ([], (0, 0)), [awR 0 2, awR 2 1])
def awB : TScope := ([], 0, [], List.replicate 3 ([], (0, 0)), [awR 0 2, awR 2 1] ++ [awR 1 0])
theorem awA_lim : Lim awA := ⟨by decide, by decide, fun r hr => by have hr : r ∈ [awR 0 2, awR 2 1] := hr; simp at hr; rcases hr with rfl | rfl <;> exact ⟨by decide, by decide⟩⟩
theorem awB_lim : Lim awB := ⟨by decide, by decide, fun r hr => by have hr : r ∈ [awR 0 2, awR 2 1, awR 1 0] := hr; simp at hr; rcases hr with rfl | rfl | rfl <;> exact ⟨by decide, by decide⟩⟩
/-! to be reckoned -/
def frI (f : Int → List Int) (a : Int) : Nat → List Int
  | 0 => [a]
  | k + 1 => uniqI ((frI f a k).flatMap f)
theorem frR_I (f : Int → List Int) (a : Int) : ∀ k, frR f a k = frI f a k
  | 0 => rfl
  | k + 1 => by rw [frR, frI, uniqS_I, frR_I f a k]
def trI (f : Int → List Int) (d : Int) : Nat → List Int
  | 0 => f d
  | k + 1 => uniqI (trI f d k ++ (trI f d k).flatMap f)
theorem trR_I (f : Int → List Int) (d : Int) : ∀ k, trR f d k = trI f d k
  | 0 => rfl
  | k + 1 => by rw [trR, trI, uniqS_I, trR_I f d k]
def lstI (f : Int → List Int) (L : Nat) (a : Int) : Nat → Int
  | 0 => a
  | k + 1 => ((f (lstI f L a k)).find? (fun e => decide (a ∈ frI f e (L - (k + 1))))).getD 0
theorem lstR_I (f : Int → List Int) (L : Nat) (a : Int) : ∀ k, lstR f L a k = lstI f L a k
  | 0 => rfl
  | k + 1 => by rw [lstR, lstI, lstR_I f L a k]; simp only [frR_I]
def fA (x : Int) : List Int := if x = 0 then [2] else if x = 2 then [1] else []
def fB (x : Int) : List Int := if x = 0 then [2] else if x = 1 then [0] else if x = 2 then [1] else []
theorem dirsA : dirs awA = fA := by
  funext x
  by_cases c : 0 ≤ x ∧ x < 3
  · have : x = 0 ∨ x = 1 ∨ x = 2 := by omega
    rcases this with rfl | rfl | rfl <;> (unfold dirs accD rdf; simp only [uniqS_I]; decide +kernel)
  · rw [(fd16 awA).off x (show ¬ (0 ≤ x ∧ x < ((scN awA : Nat) : Int)) from c)]; unfold fA; rw [if_neg (by omega), if_neg (by omega)]
theorem dirsB : dirs awB = fB := by
  funext x
  by_cases c : 0 ≤ x ∧ x < 3
  · have : x = 0 ∨ x = 1 ∨ x = 2 := by omega
    rcases this with rfl | rfl | rfl <;> (unfold dirs accD rdf; simp only [uniqS_I]; decide +kernel)
  · rw [(fd16 awB).off x (show ¬ (0 ≤ x ∧ x < ((scN awB : Nat) : Int)) from c)]; unfold fB; rw [if_neg (by omega), if_neg (by omega), if_neg (by omega)]
theorem allA : allD awA = [[2], [], [1]] := by unfold allD; rw [dirsA]; decide +kernel
theorem allB : allD awB = [[2], [0], [1]] := by unfold allD; rw [dirsB]; decide +kernel
theorem awT : trns awA 0 = [1, 2] := by rw [← trR_trns, dirsA, trR_I]; decide +kernel
theorem awO : ordV (scN awA) (allD awA) = ([1, 2, 0], 0) := by rw [allA]; decide +kernel
theorem awO2 : ordV (scN awB) (allD awB) = ([], 9) := by rw [allB]; decide +kernel
theorem awC : cycF (scN awA) (allD awA) = [] := cycF_none (fd16 awA) (fun L a h1 h2 h3 h => by
  rw [← frR_mem, dirsA, frR_I] at h
  have h2 : L < 4 := by have : scN awA = 3 := rfl; omega
  have h3 : a < 3 := h3
  have key : ∀ L, L < 4 → ∀ a : Nat, a < 3 → 1 ≤ L → ¬ ((a : Int) ∈ frI fA (a : Int) L) := by decide +kernel
  exact key L h2 a h3 h1 h)
theorem awF : Fnd (scN awB) (dirs awB) 3 0 := by
  rw [dirsB]
  refine ⟨by decide, by decide, by decide, ?_, fun L a h1 h2 h3 h => ?_, fun a h => by omega⟩
  · rw [← frR_mem, frR_I]; decide +kernel
  · rw [← frR_mem, frR_I] at h
    have key : ∀ L, L < 3 → ∀ a : Nat, a < 3 → 1 ≤ L → ¬ ((a : Int) ∈ frI fB (a : Int) L) := by decide +kernel
    exact key L h2 a h3 h1 h
theorem awC2 : cycF (scN awB) (allD awB) = [0, 2, 1] := by rw [awF.cycF (fd16 awB), dirsB]; unfold pthR; rw [show lstR fB 3 ((0 : Nat) : Int) = lstI fB 3 ((0 : Nat) : Int) from funext (lstR_I _ _ _)]; decide +kernel
theorem aw1 : Ct Try.prog 9 [.tv rScope awA] (.tup2 (.tv (rSlice (rInt .i64)) [1, 2, 0]) (.raw (.int .i64 0))) := by have h := evalOrder_ok awA awA_lim; rwa [awO] at h
theorem aw2 : Ct Try.prog 16 [.tv rScope awA, .raw (.int .i64 0)] (.tv (rSlice (rInt .i64)) [2]) := by have h := direct_ok awA 0 awA_lim; rwa [dirsA] at h
theorem aw3 : Ct Try.prog 15 [.tv rScope awA, .raw (.int .i64 0)] (.tv (rSlice (rInt .i64)) [1, 2]) := by have h := trans_ok awA 0 awA_lim; rwa [awT] at h
theorem aw4 : Ct Try.prog 12 [.tv rScope awA] (.tv (rSlice (rInt .i64)) []) := by have h := findCycle_ok awA awA_lim; rwa [awC] at h
theorem aw5 : Ct Try.prog 9 [.tv rScope awB] (.tup2 (.tv (rSlice (rInt .i64)) []) (.raw (.int .i64 9))) := by have h := evalOrder_ok awB awB_lim; rwa [awO2] at h
theorem aw6 : Ct Try.prog 12 [.tv rScope awB] (.tv (rSlice (rInt .i64)) [0, 2, 1]) := by have h := findCycle_ok awB awB_lim; rwa [awC2] at h

theorem awake_ok  : Ct Try.prog 8 [] (.raw (.bool true)) := by
  refine ct_intro Try.func8 rfl rfl Try.ntmps8 rfl rfl ?_
  intro w0 ok0
  refine j_seq ?_
  refine j_region ?_
  refine jg_adr _ rfl _ rfl rfl (op_assign (.base rfl)) ?_
  refine jg_nil ?_
  refine jn_keep [] [] .nil .nil ?_
  refine jn_seq (j_seq ?_)
  refine j_drawE mo (by kernel_rfl) (
    AE.cons _ _ _ rfl (gh_ga [] (ga_adr rfl rfl rfl (op_makeV Try.underlying22 ty115 z115 rfl by115 (n := 3) (.base rfl) (.base rfl) (by decide) (by decide))) (by kernel_rfl)) (
    AE.cons _ _ _ rfl (gh_ga [] (ga_adr rfl rfl rfl (op_call (node_ok _) (.cons (.base rfl) .nil) rfl rfl)) (by kernel_rfl)) (
    AE.cons _ _ _ rfl (gh_ga [] (ga_adr rfl rfl rfl (op_build z41 rfl pl41 (.cons (rt' := (rInt .i64)) rfl ln41_1 (.raw (.base rfl) rfl) (.cons (rt' := (rSlice rNode)) rfl ln41_6 (.tv (.base rfl)) .nil)))) (by kernel_rfl)) (
    AE.cons _ _ _ rfl (gh_ga [] (ga_adr rfl rfl rfl (op_call (node_ok _) (.cons (.base rfl) .nil) rfl rfl)) (by kernel_rfl)) (
    AE.cons _ _ _ rfl (gh_ga [] (ga_adr rfl rfl rfl (op_build z41 rfl pl41 (.cons (rt' := (rInt .i64)) rfl ln41_1 (.raw (.base rfl) rfl) (.cons (rt' := (rSlice rNode)) rfl ln41_6 (.tv (.base rfl)) .nil)))) (by kernel_rfl)) (
    AE.cons _ _ _ rfl (gh_ga [] (ga_adr rfl rfl rfl (op_bsliceX (rt := rRule) Try.underlying23 ty41 z41 rfl (.cons (.tv (.base rfl)) (.cons (.tv (.base rfl)) .nil)) rfl rfl)) (by kernel_rfl)) (
    AE.cons _ _ _ rfl (gh_ga [] (ga_adr rfl rfl rfl (op_build zX rfl pl25 (.cons (rt' := (rSlice rField)) rfl lnX_3 (.tv (.base rfl)) (.cons (rt' := (rSliceX rRule)) rfl lnX_4 (.tv (.base rfl)) .nil)))) (by kernel_rfl)) (
    AE.cons _ _ _ rfl (gh_alloc _ zX rfl) (
    AE.cons _ _ _ rfl (gh_store tyX (.base rfl) rfl rfl (Lens.id _) (.tv (.base rfl))) (
    AE.nil)))))))))) (by kernel_rfl) ?_
  refine jn_keep [1] [1] (.cons rfl .nil) (.cons rfl .nil) ?_
  refine jn_seq (j_seq ?_)
  refine j_region ?_
  refine jg_adr _ rfl _ rfl rfl (op_oloadW weakS rfl rfl tyX (.base rfl) rfl rfl) ?_
  refine jg_adr _ rfl _ rfl rfl (op_call aw1 (.cons (.base rfl) .nil) rfl rfl) ?_
  refine jg_adr _ rfl _ rfl rfl (op_move (.base rfl)) ?_
  refine jg_adr _ rfl _ rfl rfl (op_ext20 (.base rfl)) ?_
  refine jg_adr _ rfl _ rfl rfl (op_ext21 (.base rfl)) ?_
  refine jg_adr _ rfl _ rfl rfl (op_assign (.base rfl)) ?_
  refine jg_adr _ rfl _ rfl rfl (op_assign (.base rfl)) ?_
  refine jg_nil ?_
  refine jn_keep [1, 2, 3] [1] (.cons rfl (.cons rfl (.cons rfl .nil))) (.cons rfl .nil) ?_
  refine jn_seq (j_seq (j_seq ?_))
  refine j_region ?_
  refine jg_adr _ rfl _ rfl rfl (op_oloadW weakS rfl rfl tyX (.base rfl) rfl rfl) ?_
  refine jg_adr _ rfl _ rfl rfl (op_call aw2 (.cons (.base rfl) (.cons (.base rfl) .nil)) rfl rfl) ?_
  refine jg_adr _ rfl _ rfl rfl (op_bslice (rt := (rInt .i64)) Try.underlying28 ty3 z3 rfl (.cons (.raw (.base rfl) rfl) .nil) rfl rfl) ?_
  refine jg_adr _ rfl _ rfl rfl (op_call (same_ints _ _) (.cons (.base rfl) (.cons (.base rfl) .nil)) rfl rfl) ?_
  refine jg_adr _ rfl _ rfl rfl (op_not (.base rfl)) ?_
  refine jg_adr _ rfl _ rfl rfl (op_move (.base rfl)) ?_
  refine jg_gd _ _ _ _ _ _ rfl rfl rfl rfl rfl (fun hg => op_oloadW weakS rfl rfl tyX (.base rfl) rfl rfl) ?_
  refine jg_gd _ _ _ _ _ _ rfl rfl rfl rfl rfl (fun hg => op_call aw3 (.cons (.gd rfl hg) (.cons (.base rfl) .nil)) rfl rfl) ?_
  refine jg_gd _ _ _ _ _ _ rfl rfl rfl rfl rfl (fun hg => op_bslice (rt := (rInt .i64)) Try.underlying28 ty3 z3 rfl (.cons (.raw (.base rfl) rfl) (.cons (.raw (.base rfl) rfl) .nil)) rfl rfl) ?_
  refine jg_gd _ _ _ _ _ _ rfl rfl rfl rfl rfl (fun hg => op_call (same_ints _ _) (.cons (.gd rfl hg) (.cons (.gd rfl hg) .nil)) rfl rfl) ?_
  refine jg_gd _ _ _ _ _ _ rfl rfl rfl rfl rfl (fun hg => op_not (.gd rfl hg)) ?_
  refine jg_adr _ rfl _ rfl rfl (op_pick_or (.base rfl) (.base rfl) rfl (by intro h; first | (rw [h]; rfl) | (rw [hg, h]; rfl) | (rw [h, hg]; rfl) | simp_all)) ?_
  refine jg_adr _ rfl _ rfl rfl (op_move (.base rfl)) ?_
  refine jg_gd _ _ _ _ _ _ rfl rfl rfl rfl rfl (fun hg => op_move (.base rfl)) ?_
  refine jg_gd _ _ _ _ _ _ rfl rfl rfl rfl rfl (fun hg => op_bslice (rt := (rInt .i64)) Try.underlying28 ty3 z3 rfl (.cons (.raw (.base rfl) rfl) (.cons (.raw (.base rfl) rfl) (.cons (.raw (.base rfl) rfl) .nil))) rfl rfl) ?_
  refine jg_gd _ _ _ _ _ _ rfl rfl rfl rfl rfl (fun hg => op_call (same_ints _ _) (.cons (.gd rfl hg) (.cons (.gd rfl hg) .nil)) rfl rfl) ?_
  refine jg_gd _ _ _ _ _ _ rfl rfl rfl rfl rfl (fun hg => op_not (.gd rfl hg)) ?_
  refine jg_adr _ rfl _ rfl rfl (op_pick_or (.base rfl) (.base rfl) rfl (by intro h; first | (rw [h]; rfl) | (rw [hg, h]; rfl) | (rw [h, hg]; rfl) | simp_all)) ?_
  refine jg_adr _ rfl _ rfl rfl (op_move (.base rfl)) ?_
  refine jg_gd _ _ _ _ _ _ rfl rfl rfl rfl rfl (fun hg => op_move (.base rfl)) ?_
  refine jg_gd _ _ _ _ _ _ rfl rfl rfl rfl rfl (fun hg => op_neq (.gd rfl hg) (.base rfl)) ?_
  refine jg_adr _ rfl _ rfl rfl (op_pick_or (.base rfl) (.base rfl) rfl (by intro h; first | (rw [h]; rfl) | (rw [hg, h]; rfl) | (rw [h, hg]; rfl) | simp_all)) ?_
  refine jg_adr _ rfl _ rfl rfl (op_move (.base rfl)) ?_
  refine jg_gd _ _ _ _ _ _ rfl rfl rfl rfl rfl (fun hg => op_oloadW weakS rfl rfl tyX (.base rfl) rfl rfl) ?_
  refine jg_gd _ _ _ _ _ _ rfl rfl rfl rfl rfl (fun hg => op_call aw4 (.cons (.gd rfl hg) .nil) rfl rfl) ?_
  refine jg_gd _ _ _ _ _ _ rfl rfl rfl rfl rfl (fun hg => op_len Try.underlying28 (.gd rfl hg)) ?_
  refine jg_gd _ _ _ _ _ _ rfl rfl rfl rfl rfl (fun hg => op_neq (.gd rfl hg) (.base rfl)) ?_
  refine jg_adr _ rfl _ rfl rfl (op_pick_or (.base rfl) (.base rfl) rfl (by intro h; first | (rw [h]; rfl) | (rw [hg, h]; rfl) | (rw [h, hg]; rfl) | simp_all)) ?_
  refine jg_nil ?_
  refine jn_keep [1, 45] [1] (.cons rfl (.cons rfl .nil)) (.cons rfl .nil) ?_
  refine jn_seq ?_
  refine j_cond rfl (fun h3 => ?_) (fun h3 => ?_)
  · exfalso; simp at h3
  · skip
    refine j_skip (jn_seq (j_seq ?_))
    refine j_drawE mo (by kernel_rfl) (
      AE.cons _ _ _ rfl (gh_ga [1] (ga_adr rfl rfl rfl (op_ofield fld25_4 (.base rfl))) (by kernel_rfl)) (
      AE.cons _ _ _ rfl (gh_ga [1] (ga_adr rfl rfl rfl (op_oload tyXL (.base rfl) rfl rfl lnX_4)) (by kernel_rfl)) (
      AE.cons _ _ _ rfl (gh_ga [] (ga_adr rfl rfl rfl (op_call (node_ok _) (.cons (.base rfl) .nil) rfl rfl)) (by kernel_rfl)) (
      AE.cons _ _ _ rfl (gh_ga [] (ga_adr rfl rfl rfl (op_build z41 rfl pl41 (.cons (rt' := (rInt .i64)) rfl ln41_1 (.raw (.base rfl) rfl) (.cons (rt' := (rSlice rNode)) rfl ln41_6 (.tv (.base rfl)) .nil)))) (by kernel_rfl)) (
      AE.cons _ _ _ rfl (gh_ga [] (ga_adr rfl rfl rfl (op_bslice (rt := rRule) Try.underlying23 ty41 z41 rfl (.cons (.tv (.base rfl)) .nil) rfl rfl)) (by kernel_rfl)) (
      AE.cons _ _ _ rfl (gh_ga [] (ga_adr rfl rfl rfl (op_appendX (xs := [awR 0 2, awR 2 1]) (ys := [awR 1 0]) Try.underlying23 ty41 z41 rfl by41 (.tv (.base rfl)) (.tv (.base rfl)) (by simp) (by simp) (by decide) (by decide))) (by kernel_rfl)) (
      AE.cons _ _ _ rfl (gh_ga [1] (ga_adr rfl rfl rfl (op_ofield fld25_4 (.base rfl))) (by kernel_rfl)) (
      AE.cons _ _ _ rfl (gh_storeC weakS ty23 (.base rfl) rfl rfl ln25_4 (.tv (.base rfl))) (
      AE.nil))))))))) (by kernel_rfl) ?_
    refine jn_keep [1] [1] (.cons rfl .nil) (.cons rfl .nil) ?_
    refine jn_seq (j_seq ?_)
    refine j_region ?_
    refine jg_adr _ rfl _ rfl rfl (op_oload (rt := rScope) ty25 (.base rfl) rfl rfl (Lens.id _)) ?_
    refine jg_adr _ rfl _ rfl rfl (op_call aw5 (.cons (.base rfl) .nil) rfl rfl) ?_
    refine jg_adr _ rfl _ rfl rfl (op_move (.base rfl)) ?_
    refine jg_adr _ rfl _ rfl rfl (op_ext20 (.base rfl)) ?_
    refine jg_adr _ rfl _ rfl rfl (op_ext21 (.base rfl)) ?_
    refine jg_adr _ rfl _ rfl rfl (op_assign (.base rfl)) ?_
    refine jg_adr _ rfl _ rfl rfl (op_assign (.base rfl)) ?_
    refine jg_nil ?_
    refine jn_keep [1, 5] [1] (.cons rfl (.cons rfl .nil)) (.cons rfl .nil) ?_
    refine jn_seq (j_seq ?_)
    refine j_region ?_
    refine jg_adr _ rfl _ rfl rfl (op_move (.base rfl)) ?_
    refine jg_adr _ rfl _ rfl rfl (op_eql (.base rfl) (.base rfl)) ?_
    refine jg_adr _ rfl _ rfl rfl (op_move (.base rfl)) ?_
    refine jg_gd _ _ _ _ _ _ rfl rfl rfl rfl rfl (fun hg => op_oload (rt := rScope) ty25 (.base rfl) rfl rfl (Lens.id _)) ?_
    refine jg_gd _ _ _ _ _ _ rfl rfl rfl rfl rfl (fun hg => op_call aw6 (.cons (.gd rfl hg) .nil) rfl rfl) ?_
    refine jg_gd _ _ _ _ _ _ rfl rfl rfl rfl rfl (fun hg => op_bslice (rt := (rInt .i64)) Try.underlying28 ty3 z3 rfl (.cons (.raw (.base rfl) rfl) (.cons (.raw (.base rfl) rfl) (.cons (.raw (.base rfl) rfl) .nil))) rfl rfl) ?_
    refine jg_gd _ _ _ _ _ _ rfl rfl rfl rfl rfl (fun hg => op_call (same_ints _ _) (.cons (.gd rfl hg) (.cons (.gd rfl hg) .nil)) rfl rfl) ?_
    refine jg_adr _ rfl _ rfl rfl (op_pick_and (.base rfl) (.base rfl) rfl (by intro h; first | (rw [h]; rfl) | (rw [hg, h]; rfl) | (rw [h, hg]; rfl) | simp_all)) ?_
    refine jg_adr _ rfl _ rfl rfl (op_assign (.base rfl)) ?_
    refine jg_nil ?_
    refine jn_keep [0] [] (.cons rfl .nil) .nil ?_
    refine jn_seq (j_ret ?_)
    exact jr_fin1 Try.results8 (res_tmp rfl) rfl (rb (by first | rfl | decide +kernel | simp))

end Go.Proofs.Ytemcooggkcneiaa
