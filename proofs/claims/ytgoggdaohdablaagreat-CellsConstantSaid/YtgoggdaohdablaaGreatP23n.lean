import Derived.Test.YtgoggdaohdablaaGreatP23m
namespace Go.Proofs.YtgoggdaohdablaaGreat
open Go.Eng
set_option maxRecDepth 100000
set_option maxHeartbeats 4000000
set_option linter.unusedVariables false
set_option linter.unusedSimpArgs false


section
variable {e : List TNode} {s : TSignature} {ty : Nat → TType} {x y : List TValue}
theorem Flat.ap (F : Flat e s ty x) {n i : Nat} (hi : i < n + 1) (h : i < e.length) (ho : ¬ (e[i].1 = 23 ∨ e[i].1 = 24)) : Ap e[i] x ((opsF e (i : Int)).map (evV e x n)) := by
  rcases flat_ops h (F.flat i h) with hq | hq | hq | hq | ⟨hq, _⟩
  · obtain ⟨hops, h7, v1, v2, v3, v4, v5⟩ := F.sh_leaf h hq
    rw [hops]; exact .leaf hq (fun q => ⟨(h7 q).1, (h7 q).2.1⟩) v4 v3
  · exact absurd (.inl hq) ho
  · exact absurd (.inr hq) ho
  · obtain ⟨a, hops, ha, _, ta, ti⟩ := F.sh_not h hq
    have h1 := F.val n a (by omega) (by omega)
    rw [ta] at h1
    rw [hops]; exact .not _ hq h1.1 h1.2.2
  · obtain ⟨a, b, hops, ha, hb, _, tab, hn, ti⟩ := F.sh_cmp h hq
    have h1 := F.val n a (by omega) (by omega)
    have h2 := F.val n b (by omega) (by omega)
    rw [hops]; exact .cmp _ _ hq ⟨by rw [h1.1, h2.1, tab], by rw [h1.2.1, h2.2.1, tab]⟩ (fun q => by rw [h1.1]; exact hn q) h1.2.2 h2.2.2
end
theorem opsK_succ {e : List TNode} {x : List TValue} {n i k : Nat} (h : k < (opsF e (i : Int)).length) : ((opsF e (i : Int)).take (k + 1)).map (evV e x n) = ((opsF e (i : Int)).take k).map (evV e x n) ++ [evV e x n (opsF e (i : Int))[k]] := by
  rw [List.take_succ_eq_append_getElem h, List.map_append]; rfl

theorem value_step (e : List TNode) (s : TSignature) (ty : Nat → TType) (env : TEnv) (F : Flat e s ty env.2.1) (n i : Nat) (hi : i < n + 1) (h : i < e.length) (IH : ∀ j : Nat, j < n → j < e.length → Ct Tryz.prog 26 [.tv (rSlice rNode) e, .raw (.int .i64 (j : Nat)), .tv rEnv env] (svVE (evV e env.2.1 n (j : Nat)))) : Ct Tryz.prog 26 [.tv (rSlice rNode) e, .raw (.int .i64 (i : Nat)), .tv rEnv env] (svVE (evV e env.2.1 (n + 1) (i : Nat))) := by
  refine ct_intro Tryz.func26 rfl rfl Tryz.ntmps26 rfl rfl ?_
  intro w0 ok0
  refine j_seq ?_
  refine j_region ?_
  refine jg_os _ rfl (op_box (.tv (.base rfl)) rfl rfl rfl) ?_
  refine jg_os _ rfl (op_alloc _ z42 rfl rfl rfl) ?_
  refine jg_adr _ rfl _ rfl rfl (op_assign (.base rfl)) ?_
  refine jg_nil ?_
  refine jn_keep [0, 1, 5, 6] [5, 6] (.cons rfl (.cons rfl (.cons rfl (.cons rfl .nil)))) (.cons rfl (.cons rfl .nil)) ?_
  refine jn_seq (j_seq ?_)
  refine j_region ?_
  refine jg_adr _ rfl _ rfl rfl (op_move (.base rfl)) ?_
  refine jg_adr _ rfl _ rfl rfl (op_move (.base rfl)) ?_
  refine jg_adr _ rfl _ rfl rfl (op_call (roperands_ok _ _) (.cons (.base rfl) (.cons (.base rfl) .nil)) rfl rfl) ?_
  refine jg_adr _ rfl _ rfl rfl (op_assign (.base rfl)) ?_
  refine jg_nil ?_
  refine jn_keep [0, 1, 5, 6, 8] [5, 6] (.cons rfl (.cons rfl (.cons rfl (.cons rfl (.cons rfl .nil))))) (.cons rfl (.cons rfl .nil)) ?_
  refine jn_seq (j_seq ?_)
  refine j_region ?_
  refine jg_adr _ rfl _ rfl rfl (op_move (.base rfl)) ?_
  refine jg_adr _ rfl _ rfl rfl (op_move (.base rfl)) ?_
  refine jg_adr _ rfl _ rfl rfl (op_index Tryz.underlying22 ty56 (.base rfl) (.base rfl) rfl (List.getElem?_eq_getElem (by first | omega | (simp; done) | (simp; omega) | (simp at hg; omega)))) ?_
  refine jg_adr _ rfl _ rfl rfl (op_field fld56_0 ln56_0 (.base rfl)) ?_
  refine jg_adr _ rfl _ rfl rfl (op_load ty3 (.base rfl)) ?_
  refine jg_adr _ rfl _ rfl rfl (op_assign (.base rfl)) ?_
  refine jg_nil ?_
  refine jn_keep [0, 1, 5, 6, 8, 9] [5, 6] (.cons rfl (.cons rfl (.cons rfl (.cons rfl (.cons rfl (.cons rfl .nil)))))) (.cons rfl (.cons rfl .nil)) ?_
  refine jn_seq (j_seq (j_seq ?_))
  refine j_region ?_
  refine jg_adr _ rfl _ rfl rfl (op_move (.base rfl)) ?_
  refine jg_adr _ rfl _ rfl rfl (op_eql (.base rfl) (.base rfl)) ?_
  refine jg_adr _ rfl _ rfl rfl (op_move (.base rfl)) ?_
  refine jg_gd _ _ _ _ _ _ rfl rfl rfl rfl rfl (fun hg => op_move (.base rfl)) ?_
  refine jg_gd _ _ _ _ _ _ rfl rfl rfl rfl rfl (fun hg => op_eql (.gd rfl hg) (.base rfl)) ?_
  refine jg_adr _ rfl _ rfl rfl (op_pick_or (.base rfl) (.base rfl) rfl (by intro h; first | (rw [h]; rfl) | (rw [hg, h]; rfl) | (rw [h, hg]; rfl) | simp_all)) ?_
  refine jg_adr _ rfl _ rfl rfl (op_move (.base rfl)) ?_
  refine jg_gd _ _ _ _ _ _ rfl rfl rfl rfl rfl (fun hg => op_move (.base rfl)) ?_
  refine jg_gd _ _ _ _ _ _ rfl rfl rfl rfl rfl (fun hg => op_eql (.gd rfl hg) (.base rfl)) ?_
  refine jg_adr _ rfl _ rfl rfl (op_pick_or (.base rfl) (.base rfl) rfl (by intro h; first | (rw [h]; rfl) | (rw [hg, h]; rfl) | (rw [h, hg]; rfl) | simp_all)) ?_
  refine jg_nil ?_
  refine jn_keep [0, 1, 5, 6, 8, 31] [5, 6] (.cons rfl (.cons rfl (.cons rfl (.cons rfl (.cons rfl (.cons rfl .nil)))))) (.cons rfl (.cons rfl .nil)) ?_
  refine jn_seq ?_
  refine j_cond rfl (fun h3 => ?_) (fun h3 => ?_)
  · have h3 : e[i].1 = 23 ∨ e[i].1 = 24 := by simp [List.getElem?_eq_getElem h] at h3; have := flat_ops h (F.flat i h); omega
    obtain ⟨a, b, hops, hab, hbb, hz, ta, tb, ti⟩ := F.sh_and h h3
    have v1 := F.val n a (by omega) (by omega)
    have v2 := F.val n b (by omega) (by omega)
    rw [ta] at v1
    rw [tb] at v2
    have c1 := IH a (by omega) (by omega)
    have c2 := IH b (by omega) (by omega)
    rw [hops]
    refine j_seq ?_
    refine j_region ?_
    refine jg_adr _ rfl _ rfl rfl (op_move (.base rfl)) ?_
    refine jg_adr _ rfl _ rfl rfl (op_move (.base rfl)) ?_
    refine jg_adr _ rfl _ rfl rfl (op_move (.base rfl)) ?_
    refine jg_adr _ rfl _ rfl rfl (op_oload ty48 (.base rfl) rfl rfl (Lens.id _)) ?_
    refine jg_adr _ rfl _ rfl rfl (op_call (lazy_ok e i a b env _ _ h h3 hz c1 c2 v1.1 v1.2.2 v2.1 v2.2.2) (.cons (.base rfl) (.cons (.base rfl) (.cons (.base rfl) (.cons (.base rfl) .nil)))) rfl rfl) ?_
    refine jg_adr _ rfl _ rfl rfl (op_ext20 (.base rfl)) ?_
    refine jg_adr _ rfl _ rfl rfl (op_ext21 (.base rfl)) ?_
    refine jg_os _ rfl (op_ostore ty42 (.base rfl) rfl rfl (Lens.id _) (.tv (.base rfl))) ?_
    refine jg_adr _ rfl _ rfl rfl (op_assign (.base rfl)) ?_
    refine jg_nil ?_
    refine jn_keep [6, 7] [6] (.cons rfl (.cons rfl .nil)) (.cons rfl .nil) ?_
    refine jn_seq (j_ret (jr_seq ?_))
    exact jr_fin2 Tryz.results26 (res_cell ty42 rfl rfl rfl (Lens.id rValue)) (res_tmp rfl) ⟨rfl, rfl⟩ (svVE_eq ((ev_and h h3 hops).symm) (rfl))
  · have h3 : ¬ (e[i].1 = 23 ∨ e[i].1 = 24) := by intro q; rcases q with q | q <;> simp [List.getElem?_eq_getElem h, q] at h3
    refine j_skip (jn_seq (j_seq ?_))
    refine j_region ?_
    refine jg_adr _ rfl _ rfl rfl (op_assign (.base rfl)) ?_
    refine jg_nil ?_
    refine jn_keep [0, 1, 5, 6, 8, 10] [5, 6] (.cons rfl (.cons rfl (.cons rfl (.cons rfl (.cons rfl (.cons rfl .nil)))))) (.cons rfl (.cons rfl .nil)) ?_
    refine jn_seq (j_seq (j_seq ?_))
    refine j_region ?_
    refine jg_adr _ rfl _ rfl rfl (op_assign (.base rfl)) ?_
    refine jg_nil ?_
    refine jn_keep [0, 1, 5, 6, 8, 10, 11] [5, 6] (.cons rfl (.cons rfl (.cons rfl (.cons rfl (.cons rfl (.cons rfl (.cons rfl .nil))))))) (.cons rfl (.cons rfl .nil)) ?_
    refine jn_seq (j_block ?_)
    have hol : (opsF e (i : Int)).length ≤ 3 := by have := (F.typ i h).1.1; have q := (arity_le e[i].1).2; omega
    refine j_vac 70 10 rValue rfl rfl rfl ?_
    refine j_loopp (ι := Nat) (fun k => ⟨[(0, .tv (rSlice rNode) e), (1, .raw (.int .i64 ((i : Nat)))), (5, .optr 5 rEnv.n 0 0), (6, .optr 6 rValue.n 0 0), (8, .tv (rSlice (rInt .i64)) (opsF e (i : Int))), (10, .own 70 rValue.n 0 (((opsF e (i : Int)).take k).map (evV e env.2.1 n)).length), (11, .raw (.int .i64 ((k : Nat))))], [(5, ⟨rEnv, [env]⟩), (6, ⟨rValue, [(0, 0, 0)]⟩), (70, ⟨rValue, ((opsF e (i : Int)).take k).map (evV e env.2.1 n)⟩)]⟩) (fun k => k ≤ (opsF e (i : Int)).length) (fun k => (opsF e (i : Int)).length - k) 0 (Nat.zero_le _) (fun a w hi => (Sub.inv ⟨(by repeat (first | exact SubS_nil | refine SubS_cons rfl (by first | rfl | (simp; done) | assumption) ?_)), (by repeat (first | exact SubH_nil | refine SubH_cons rfl (by first | rfl | (simp; done) | assumption) ?_))⟩ hi)) ?_
    rintro k hk
    have hrl : (((opsF e (i : Int)).take k).map (evV e env.2.1 n)).length ≤ 3 := by rw [List.length_map, List.length_take]; omega
    refine j_seq (j_seq ?_)
    refine j_region ?_
    refine jg_adr _ rfl _ rfl rfl (op_move (.base rfl)) ?_
    refine jg_adr _ rfl _ rfl rfl (op_move (.base rfl)) ?_
    refine jg_adr _ rfl _ rfl rfl (op_len Tryz.underlying28 (.base rfl)) ?_
    refine jg_adr _ rfl _ rfl rfl (op_lss (.base rfl) (.base rfl)) ?_
    refine jg_nil ?_
    refine jn_keep [0, 1, 5, 6, 8, 10, 11, 42] [5, 6, 70] (.cons rfl (.cons rfl (.cons rfl (.cons rfl (.cons rfl (.cons rfl (.cons rfl (.cons rfl .nil)))))))) (.cons rfl (.cons rfl (.cons rfl .nil))) ?_
    refine jn_seq ?_
    refine j_cond rfl (fun h7 => ?_) (fun h7 => ?_)
    · have h7 : k < (opsF e (i : Int)).length := by simpa using h7
      have hzb := (F.typ i h).2.1 _ (List.getElem_mem h7)
      have hcv : Ct Tryz.prog 26 [.tv (rSlice rNode) e, .raw (.int .i64 (opsF e (i : Int))[k]), .tv rEnv env] (svVE (evV e env.2.1 n (opsF e (i : Int))[k])) := by
        have q := IH (opsF e (i : Int))[k].toNat (by omega) (by omega)
        rwa [Int.toNat_of_nonneg hzb.1] at q
      have hs := opsK_succ (x := env.2.1) (n := n) h7
      refine j_skip (jn_seq (j_seq (j_block (j_seq ?_))))
      refine j_drawE mo (by kernel_rfl) (
        AE.cons _ _ _ rfl (gh_ga [] (ga_adr rfl rfl rfl (op_move (.base rfl))) (by kernel_rfl)) (
        AE.cons _ _ _ rfl (gh_ga [] (ga_adr rfl rfl rfl (op_move (.base rfl))) (by kernel_rfl)) (
        AE.cons _ _ _ rfl (gh_ga [] (ga_adr rfl rfl rfl (op_move (.base rfl))) (by kernel_rfl)) (
        AE.cons _ _ _ rfl (gh_ga [] (ga_adr rfl rfl rfl (op_index Tryz.underlying28 ty3 (.base rfl) (.base rfl) rfl (List.getElem?_eq_getElem (by first | omega | (simp; done) | (simp; omega) | (simp at hg; omega))))) (by kernel_rfl)) (
        AE.cons _ _ _ rfl (gh_ga [] (ga_adr rfl rfl rfl (op_load ty3 (.base rfl))) (by kernel_rfl)) (
        AE.cons _ _ _ rfl (gh_ga [5] (ga_adr rfl rfl rfl (op_oload ty48 (.base rfl) rfl rfl (Lens.id _))) (by kernel_rfl)) (
        AE.cons _ _ _ rfl (gh_ga [] (ga_adr rfl rfl rfl (op_call hcv (.cons (.base rfl) (.cons (.base rfl) (.cons (.base rfl) .nil))) rfl rfl)) (by kernel_rfl)) (
        AE.cons _ _ _ rfl (gh_ga [] (ga_adr rfl rfl rfl (op_move (.base rfl))) (by kernel_rfl)) (
        AE.cons _ _ _ rfl (gh_ga [] (ga_adr rfl rfl rfl (op_ext20 (.base rfl))) (by kernel_rfl)) (
        AE.cons _ _ _ rfl (gh_ga [] (ga_adr rfl rfl rfl (op_ext21 (.base rfl))) (by kernel_rfl)) (
        AE.cons _ _ _ rfl (gh_alloc _ z42 rfl) (
        AE.cons _ _ _ rfl (gh_store ty42 (.base rfl) rfl rfl (Lens.id _) (.tv (.base rfl))) (
        AE.cons _ _ _ rfl (gh_ga [] (ga_adr rfl rfl rfl (op_assign (.base rfl))) (by kernel_rfl)) (
        AE.nil)))))))))))))) (by kernel_rfl) ?_
      refine jn_keep [0, 1, 5, 6, 8, 10, 11, 12, 13] [5, 6, 12, 70] (.cons rfl (.cons rfl (.cons rfl (.cons rfl (.cons rfl (.cons rfl (.cons rfl (.cons rfl (.cons rfl .nil))))))))) (.cons rfl (.cons rfl (.cons rfl (.cons rfl .nil)))) ?_
      refine jn_seq (j_seq (j_seq ?_))
      refine j_region ?_
      refine jg_adr _ rfl _ rfl rfl (op_move (.base rfl)) ?_
      refine jg_adr _ rfl _ rfl rfl (op_neq (.base rfl) (.base rfl)) ?_
      refine jg_nil ?_
      refine jn_keep [0, 1, 5, 6, 8, 10, 11, 12, 13, 56] [5, 6, 12, 70] (.cons rfl (.cons rfl (.cons rfl (.cons rfl (.cons rfl (.cons rfl (.cons rfl (.cons rfl (.cons rfl (.cons rfl .nil)))))))))) (.cons rfl (.cons rfl (.cons rfl (.cons rfl .nil)))) ?_
      refine jn_seq ?_
      refine j_cond rfl (fun h10 => ?_) (fun h10 => ?_)
      · exfalso; simp at h10
      · try simp at h10
        refine j_skip (jn_seq ?_)
        refine j_region ?_
        refine jg_adr _ rfl _ rfl rfl (op_move (.base rfl)) ?_
        refine jg_adr _ rfl _ rfl rfl (op_oload ty42 (.base rfl) rfl rfl (Lens.id _)) ?_
        refine jg_adr _ rfl _ rfl rfl (op_bslice (rt := rValue) Tryz.underlying32 ty42 z42 rfl (.cons (.tv (.base rfl)) .nil) rfl rfl) ?_
        refine jg_os _ rfl (op_append [0, 1, 5, 6, 8, 11] Tryz.underlying32 ty42 z42 rfl by42 (.base rfl) rfl (by (try simp); try omega) (.tv (.base rfl)) (by unfold maxLen; (try simp); try omega) (by (try simp); try omega) rfl (.cons rfl (.cons rfl (.cons rfl (.cons rfl (.cons rfl (.cons rfl .nil)))))) rfl) ?_
        refine jg_adr _ rfl _ rfl rfl (op_assign (.base rfl)) ?_
        refine jg_nil ?_
        refine jn_keep [0, 1, 5, 6, 8, 10, 11] [5, 6, 70] (.cons rfl (.cons rfl (.cons rfl (.cons rfl (.cons rfl (.cons rfl (.cons rfl .nil))))))) (.cons rfl (.cons rfl (.cons rfl .nil))) ?_
        refine jn_blk (jn_seq ?_)
        refine j_region ?_
        refine jg_adr _ rfl _ rfl rfl (op_move (.base rfl)) ?_
        refine jg_adr _ rfl _ rfl rfl (op_add (.base rfl) (.base rfl) (w64 (by omega))) ?_
        refine jg_adr _ rfl _ rfl rfl (op_assign (.base rfl)) ?_
        refine jg_nil ?_
        refine jn_keep [0, 1, 5, 6, 8, 10, 11] [5, 6, 70] (.cons rfl (.cons rfl (.cons rfl (.cons rfl (.cons rfl (.cons rfl (.cons rfl .nil))))))) (.cons rfl (.cons rfl (.cons rfl .nil))) ?_
        exact jn_loop (fun a w hi => ⟨k + 1, (by omega), (by omega), Sub.inv ⟨(by repeat (first | exact SubS_nil | refine SubS_cons rfl (by first | rfl | (refine congrArg (SV.own 70 rValue.n 0) ?_; rw [hs]; exact List.length_append.symm)) ?_)), (by repeat (first | exact SubH_nil | refine SubH_cons rfl (by first | rfl | (refine congrArg (HB.mk rValue) ?_; rw [hs]; (try simp only [List.drop_zero, List.take_length]); first | done | rfl)) ?_))⟩ hi⟩)
    · simp at h7
      refine j_exit (je_seq (je_loop (je_blk (jn_seq (j_seq ?_)))))
      refine j_seal (rt := rValue) 70 10 (dropH 70 _) rfl rfl (by simp) (dropH_sub 70 _) (dropH_no 70 _) ?_
      rw [List.drop_zero, List.take_length, List.take_of_length_le (show (opsF e (i : Int)).length ≤ k by omega)]
      refine j_drawE mo (by kernel_rfl) (
        AE.cons _ _ _ rfl (gh_ga [] (ga_adr rfl rfl rfl (op_move (.base rfl))) (by kernel_rfl)) (
        AE.cons _ _ _ rfl (gh_ga [] (ga_adr rfl rfl rfl (op_move (.base rfl))) (by kernel_rfl)) (
        AE.cons _ _ _ rfl (gh_ga [] (ga_adr rfl rfl rfl (op_index Tryz.underlying22 ty56 (.base rfl) (.base rfl) rfl (List.getElem?_eq_getElem (by first | omega | (simp; done) | (simp; omega) | (simp at hg; omega))))) (by kernel_rfl)) (
        AE.cons _ _ _ rfl (gh_ga [] (ga_adr rfl rfl rfl (op_load ty56 (.base rfl))) (by kernel_rfl)) (
        AE.cons _ _ _ rfl (gh_ga [] (ga_adr rfl rfl rfl (op_move (.base rfl))) (by kernel_rfl)) (
        AE.cons _ _ _ rfl (gh_ga [5] (ga_adr rfl rfl rfl (op_oload ty48 (.base rfl) rfl rfl (Lens.id _))) (by kernel_rfl)) (
        AE.cons _ _ _ rfl (gh_ga [] (ga_adr rfl rfl rfl (op_call (apply_ok e[i] _ env (F.ap hi h h3) (F.typ i h).2.2.1) (.cons (.base rfl) (.cons (.base rfl) (.cons (.base rfl) .nil))) rfl rfl)) (by kernel_rfl)) (
        AE.cons _ _ _ rfl (gh_ga [] (ga_adr rfl rfl rfl (op_ext20 (.base rfl))) (by kernel_rfl)) (
        AE.cons _ _ _ rfl (gh_ga [] (ga_adr rfl rfl rfl (op_ext21 (.base rfl))) (by kernel_rfl)) (
        AE.cons _ _ _ rfl (gh_store ty42 (.base rfl) rfl rfl (Lens.id _) (.tv (.base rfl))) (
        AE.cons _ _ _ rfl (gh_ga [] (ga_adr rfl rfl rfl (op_assign (.base rfl))) (by kernel_rfl)) (
        AE.nil)))))))))))) (by kernel_rfl) ?_
      refine jn_keep [6, 7] [6] (.cons rfl (.cons rfl .nil)) (.cons rfl .nil) ?_
      refine jn_seq (j_ret ?_)
      exact jr_fin2 Tryz.results26 (res_cell ty42 rfl rfl rfl (Lens.id rValue)) (res_tmp rfl) ⟨rfl, rfl⟩ (svVE_eq ((ev_app h h3).symm) (rfl))


theorem value_ok (e : List TNode) (s : TSignature) (ty : Nat → TType) (env : TEnv) (F : Flat e s ty env.2.1) : ∀ (n i : Nat), i < n → i < e.length → Ct Tryz.prog 26 [.tv (rSlice rNode) e, .raw (.int .i64 (i : Nat)), .tv rEnv env] (svVE (evV e env.2.1 n (i : Nat)))
  | n + 1, i, hi, h => value_step e s ty env F n i hi h (fun j hj hj2 => value_ok e s ty env F n j hj hj2)

theorem eval_ok (e : List TNode) (s : TSignature) (ty : Nat → TType) (env : TEnv) (F : Flat e s ty env.2.1) (hst : (structF e).2.2 = 0) (h48 : e.length ≤ 100) : Ct Tryz.prog 12 [.tv (rSlice rNode) e, .tv rEnv env] (svVE (evV e env.2.1 e.length ((e.length : Int) - 1))) := by
  refine ct_intro Tryz.func12 rfl rfl Tryz.ntmps12 rfl rfl ?_
  intro w0 ok0
  have hv : Ct Tryz.prog 26 [.tv (rSlice rNode) e, .raw (.int .i64 ((e.length : Int) - 1)), .tv rEnv env] (svVE (evV e env.2.1 e.length ((e.length : Int) - 1))) := by
    have q := value_ok e s ty env F e.length (e.length - 1) (by have := F.len; omega) (by have := F.len; omega)
    have hl := F.len
    rwa [show ((e.length - 1 : Nat) : Int) = (e.length : Int) - 1 by omega] at q
  refine j_seq ?_
  refine j_region ?_
  refine jg_os _ rfl (op_box (.tv (.base rfl)) rfl rfl rfl) ?_
  refine jg_os _ rfl (op_alloc _ z42 rfl rfl rfl) ?_
  refine jg_adr _ rfl _ rfl rfl (op_assign (.base rfl)) ?_
  refine jg_nil ?_
  refine jn_keep [0, 3, 4] [3, 4] (.cons rfl (.cons rfl (.cons rfl .nil))) (.cons rfl (.cons rfl .nil)) ?_
  refine jn_seq (j_seq ?_)
  refine j_region ?_
  refine jg_adr _ rfl _ rfl rfl (op_move (.base rfl)) ?_
  refine jg_adr _ rfl _ rfl rfl (op_call (rstarts_ok _) (.cons (.base rfl) .nil) rfl rfl) ?_
  refine jg_adr _ rfl _ rfl rfl (op_move (.base rfl)) ?_
  refine jg_adr _ rfl _ rfl rfl (op_ext20 (.base rfl)) ?_
  refine jg_adr _ rfl _ rfl rfl (op_ext21 (.base rfl)) ?_
  refine jg_adr _ rfl _ rfl rfl (op_assign (.base rfl)) ?_
  refine jg_adr _ rfl _ rfl rfl (op_assign (.base rfl)) ?_
  refine jg_nil ?_
  refine jn_keep [0, 3, 4, 7] [3, 4] (.cons rfl (.cons rfl (.cons rfl (.cons rfl .nil)))) (.cons rfl (.cons rfl .nil)) ?_
  refine jn_seq (j_seq (j_seq ?_))
  refine j_region ?_
  refine jg_adr _ rfl _ rfl rfl (op_move (.base rfl)) ?_
  refine jg_adr _ rfl _ rfl rfl (op_neq (.base rfl) (.base rfl)) ?_
  refine jg_nil ?_
  refine jn_keep [0, 3, 4, 7, 14] [3, 4] (.cons rfl (.cons rfl (.cons rfl (.cons rfl (.cons rfl .nil))))) (.cons rfl (.cons rfl .nil)) ?_
  refine jn_seq ?_
  refine j_cond rfl (fun h2 => ?_) (fun h2 => ?_)
  · exfalso; simp at h2; exact h2 hst
  · try simp at h2
    refine j_skip (jn_seq (j_seq ?_))
    refine j_region ?_
    refine jg_adr _ rfl _ rfl rfl (op_move (.base rfl)) ?_
    refine jg_adr _ rfl _ rfl rfl (op_move (.base rfl)) ?_
    refine jg_adr _ rfl _ rfl rfl (op_len Tryz.underlying22 (.base rfl)) ?_
    refine jg_adr _ rfl _ rfl rfl (op_sub (.base rfl) (.base rfl) (w64 (by omega))) ?_
    refine jg_adr _ rfl _ rfl rfl (op_oload ty48 (.base rfl) rfl rfl (Lens.id _)) ?_
    refine jg_adr _ rfl _ rfl rfl (op_call hv (.cons (.base rfl) (.cons (.base rfl) (.cons (.base rfl) .nil))) rfl rfl) ?_
    refine jg_adr _ rfl _ rfl rfl (op_ext20 (.base rfl)) ?_
    refine jg_adr _ rfl _ rfl rfl (op_ext21 (.base rfl)) ?_
    refine jg_os _ rfl (op_ostore ty42 (.base rfl) rfl rfl (Lens.id _) (.tv (.base rfl))) ?_
    refine jg_adr _ rfl _ rfl rfl (op_assign (.base rfl)) ?_
    refine jg_nil ?_
    refine jn_keep [4, 5] [4] (.cons rfl (.cons rfl .nil)) (.cons rfl .nil) ?_
    refine jn_seq (j_ret ?_)
    exact jr_fin2 Tryz.results12 (res_cell ty42 rfl rfl rfl (Lens.id rValue)) (res_tmp rfl) ⟨rfl, rfl⟩ (svVE_eq (rfl) (rfl))

end Go.Proofs.YtgoggdaohdablaaGreat
