import Derived.Test.YtemcooggkcneiaaP16a
import Derived.Test.YtemcooggkcneiaaEngH
import Derived.Test.YtemcooggkcneiaaFacts
namespace Go.Proofs.Ytemcooggkcneiaa
open Go.Eng
set_option maxRecDepth 100000
set_option maxHeartbeats 4000000
set_option linter.unusedVariables false
set_option linter.unusedSimpArgs false

theorem tyH46 : Ty Try.prog 46 rHd := by obtain ⟨⟨de, hu, hd⟩, i0, hi0, hs⟩ := ty46; exact ⟨⟨de, hu, hd⟩, i0, hi0, hs⟩
theorem mt_len : MT Try.prog 45 "Len" 24 false := by unfold MT; kernel_rfl
theorem mt_less : MT Try.prog 45 "Less" 81 false := by unfold MT; kernel_rfl
theorem mt_swap : MT Try.prog 45 "Swap" 84 false := by unfold MT; kernel_rfl
theorem mt_push : MT Try.prog 45 "Push" 83 true := by unfold MT; kernel_rfl
theorem mt_pop : MT Try.prog 45 "Pop" 82 true := by unfold MT; kernel_rfl
theorem hlen_ok (xs : List Int) (hm : xs.length ≤ 100000) : Ct Try.prog 24 [.tv (rSlice (rInt .i64)) xs] (.raw (.int .i64 xs.length)) := by
  refine ct_intro Try.func24 rfl rfl Try.ntmps24 rfl rfl ?_
  intro w0 ok0
  refine j_seq ?_
  refine j_region ?_
  refine jg_adr _ rfl _ rfl rfl (op_assign (.base rfl)) ?_
  refine jg_nil ?_
  refine jn_keep [0] [] (.cons rfl .nil) .nil ?_
  refine jn_seq (j_seq ?_)
  refine j_region ?_
  refine jg_adr _ rfl _ rfl rfl (op_move (.base rfl)) ?_
  refine jg_adr _ rfl _ rfl rfl (op_len Try.underlying46 (.base rfl)) ?_
  refine jg_adr _ rfl _ rfl rfl (op_assign (.base rfl)) ?_
  refine jg_nil ?_
  refine jn_keep [2] [] (.cons rfl .nil) .nil ?_
  refine jn_seq (j_ret ?_)
  exact jr_fin1 Try.results24 (res_tmp rfl) rfl (rfl)

theorem hless_ok (xs : List Int) (i j : Nat) (hi : i < xs.length) (hj : j < xs.length) : Ct Try.prog 81 [.tv (rSlice (rInt .i64)) xs, .raw (.int .i64 (i : Nat)), .raw (.int .i64 (j : Nat))] (.raw (.bool (decide (gt xs i < gt xs j)))) := by
  refine ct_intro Try.func81 rfl rfl Try.ntmps81 rfl rfl ?_
  intro w0 ok0
  refine j_seq ?_
  refine j_region ?_
  refine jg_adr _ rfl _ rfl rfl (op_assign (.base rfl)) ?_
  refine jg_nil ?_
  refine jn_keep [0, 1, 2] [] (.cons rfl (.cons rfl (.cons rfl .nil))) .nil ?_
  refine jn_seq (j_seq ?_)
  refine j_draw mo (by kernel_rfl) (
    AS.cons _ _ rfl (ga_adr rfl rfl rfl (op_move (.base rfl))) (
      AS.cons _ _ rfl (ga_adr rfl rfl rfl (op_move (.base rfl))) (
      AS.cons _ _ rfl (ga_adr rfl rfl rfl (op_index Try.underlying46 ty3 (.base rfl) (.base rfl) rfl (List.getElem?_eq_getElem (by first | omega | (simp; done) | (simp; omega) | (simp at hg; omega))))) (
      AS.cons _ _ rfl (ga_adr rfl rfl rfl (op_load ty3 (.base rfl))) (
      AS.cons _ _ rfl (ga_adr rfl rfl rfl (op_move (.base rfl))) (
      AS.cons _ _ rfl (ga_adr rfl rfl rfl (op_move (.base rfl))) (
      AS.cons _ _ rfl (ga_adr rfl rfl rfl (op_index Try.underlying46 ty3 (.base rfl) (.base rfl) rfl (List.getElem?_eq_getElem (by first | omega | (simp; done) | (simp; omega) | (simp at hg; omega))))) (
      AS.cons _ _ rfl (ga_adr rfl rfl rfl (op_load ty3 (.base rfl))) (
      AS.cons _ _ rfl (ga_adr rfl rfl rfl (op_lss (.base rfl) (.base rfl))) (
      AS.cons _ _ rfl (ga_adr rfl rfl rfl (op_assign (.base rfl))) (
      AS.nil))))))))))) ?_
  refine jn_keep [6] [] (.cons rfl .nil) .nil ?_
  refine jn_seq (j_ret ?_)
  exact jr_fin1 Try.results81 (res_tmp rfl) rfl (rb (by rw [gt_at hi, gt_at hj]))

theorem hswap_ok (xs : List Int) (i j : Nat) (hi : i < xs.length) (hj : j < xs.length) : CtI Try.prog 84 (rInt .i64) (uHead) xs (fun ys => ys = sw xs i j) [.raw (.int .i64 (i : Nat)), .raw (.int .i64 (j : Nat))] (.raw (.tuple #[])) := by
  refine ctI_intro (svHead 100 101 1) (fun _ _ _ _ _ => is0_head) Try.func84 rfl rfl rfl rfl rfl ?_
  intro w0 ok0 pb po A cap ex
  refine j_drawE mo (by kernel_rfl) (
    AE.cons _ _ _ rfl (gh_move rfl (.l1 rfl)) (
    AE.cons _ _ _ rfl (gh_ga [] (ga_adr rfl rfl rfl (op_move (.base rfl))) (by kernel_rfl)) (
    AE.cons _ _ _ rfl (gh_move rfl (.l1 rfl)) (
    AE.cons _ _ _ rfl (gh_ga [] (ga_adr rfl rfl rfl (op_move (.base rfl))) (by kernel_rfl)) (
    AE.cons _ _ _ rfl (gh_move rfl (.l1 rfl)) (
    AE.cons _ _ _ rfl (gh_ga [] (ga_adr rfl rfl rfl (op_move (.base rfl))) (by kernel_rfl)) (
    AE.cons _ _ _ rfl (gh_oindex rfl Try.underlying46 ty3 (.b1 rfl) (.base rfl) rfl (by first | omega | (simp; done) | (simp; omega))) (
    AE.cons _ _ _ rfl (gh_ga [101] (ga_adr rfl rfl rfl (op_oload ty3 (.base rfl) rfl (List.getElem?_eq_getElem (by first | omega | (simp; done) | (simp; omega))) (Lens.id _))) (by kernel_rfl)) (
    AE.cons _ _ _ rfl (gh_move rfl (.l1 rfl)) (
    AE.cons _ _ _ rfl (gh_ga [] (ga_adr rfl rfl rfl (op_move (.base rfl))) (by kernel_rfl)) (
    AE.cons _ _ _ rfl (gh_oindex rfl Try.underlying46 ty3 (.b1 rfl) (.base rfl) rfl (by first | omega | (simp; done) | (simp; omega))) (
    AE.cons _ _ _ rfl (gh_ga [101] (ga_adr rfl rfl rfl (op_oload ty3 (.base rfl) rfl (List.getElem?_eq_getElem (by first | omega | (simp; done) | (simp; omega))) (Lens.id _))) (by kernel_rfl)) (
    AE.cons _ _ _ rfl (gh_oindex rfl Try.underlying46 ty3 (.b1 rfl) (.base rfl) rfl (by first | omega | (simp; done) | (simp; omega))) (
    AE.cons _ _ _ rfl (gh_store ty3 (.base rfl) rfl (List.getElem?_eq_getElem (by first | omega | (simp; done) | (simp; omega))) (Lens.id _) (.raw (.base rfl) rfl)) (
    AE.cons _ _ _ rfl (gh_oindex rfl Try.underlying46 ty3 (.b1 rfl) (.base rfl) rfl (by first | omega | (simp; done) | (simp; omega))) (
    AE.cons _ _ _ rfl (gh_store ty3 (.base rfl) rfl (List.getElem?_eq_getElem (by first | omega | (simp; done) | (simp; omega))) (Lens.id _) (.raw (.base rfl) rfl)) (
    AE.nil))))))))))))))))) (by kernel_rfl) ?_
  refine jn_keep [0] [100, 101] (.cons rfl .nil) (.cons rfl (.cons rfl .nil)) ?_
  exact jn_finI0 (s0 := 0) Try.results84 rfl is0_head rfl rfl (by simp) (by simp only [Nat.zero_add]; unfold sw; rw [gt_at hi, gt_at hj])

theorem hpush_ok (xs : List Int) (x : Int) (hsm : xs.length ≤ 1000) : CtI Try.prog 83 (rInt .i64) (uPtr) xs (fun ys => ys = xs ++ [x]) [.raw (.iface 3 (.int .i64 x))] (.raw (.tuple #[])) := by
  refine ctI_intro (svPtr 100 101 1) (fun _ _ _ _ _ => is0_ptr) Try.func83 rfl rfl rfl rfl rfl ?_
  intro w0 ok0 pb po A cap ex
  refine j_seq ?_
  refine j_region ?_
  refine jg_adr _ rfl _ rfl rfl (op_move (.base rfl)) ?_
  refine jg_adr _ rfl _ rfl rfl (op_assertI Try.underlying3 (.base rfl)) ?_
  refine jg_adr _ rfl _ rfl rfl (op_move (.base rfl)) ?_
  refine jg_adr _ rfl _ rfl rfl (op_ext20 (.base rfl)) ?_
  refine jg_adr _ rfl _ rfl rfl (op_ext21 (.base rfl)) ?_
  refine jg_adr _ rfl _ rfl rfl (op_assign (.base rfl)) ?_
  refine jg_adr _ rfl _ rfl rfl (op_assign (.base rfl)) ?_
  refine jg_nil ?_
  refine jn_keep [0, 4, 5] [100, 101] (.cons rfl (.cons rfl (.cons rfl .nil))) (.cons rfl (.cons rfl .nil)) ?_
  refine jn_seq (j_seq ?_)
  refine j_region ?_
  refine jg_adr _ rfl _ rfl rfl (op_move (.base rfl)) ?_
  refine jg_nil ?_
  refine jn_keep [0, 4, 11] [100, 101] (.cons rfl (.cons rfl (.cons rfl .nil))) (.cons rfl (.cons rfl .nil)) ?_
  refine jn_seq ?_
  refine j_cond rfl (fun h1 => ?_) (fun h1 => ?_)
  · try simp at h1
    refine j_region ?_
    refine jg_adr _ rfl _ rfl rfl (op_move (.l1 rfl)) ?_
    refine jg_adr _ rfl _ rfl rfl (op_move (.l1 rfl)) ?_
    refine jg_adr _ rfl _ rfl rfl (op_nilCheck (.base rfl) (.inr ⟨_, rfl⟩)) ?_
    refine jg_adr _ rfl _ rfl rfl (op_oload tyH46 (.b1 rfl) rfl rfl (Lens.id _)) ?_
    refine jg_takeL 0 15 rfl rfl rfl ?_
    refine jg_adr _ rfl _ rfl rfl (op_move (.base rfl)) ?_
    refine jg_adr _ rfl _ rfl rfl (op_bslice (rt := (rInt .i64)) Try.underlying46 ty3 z3 rfl (.cons (.raw (.base rfl) rfl) .nil) rfl rfl) ?_
    refine jg_os _ rfl (op_append [0, 12] Try.underlying46 ty3 z3 rfl by3 (.base rfl) rfl (by (try simp); try omega) (.tv (.base rfl)) (by unfold maxLen; (try simp); try omega) (by (try simp); try omega) rfl (.cons rfl (.cons rfl .nil)) rfl) ?_
    refine jg_adr _ rfl _ rfl rfl (op_nilCheck (.base rfl) (.inr ⟨_, rfl⟩)) ?_
    refine jg_giveL 0 18 rfl rfl (fun A2 cap2 => ?_)
    refine jg_os _ rfl (op_ostore (d := (A2, xs.length + [x].length, cap2)) tyH46 (.b1 rfl) rfl rfl (Lens.id _) (.raw (.base rfl) rfl)) ?_
    refine jg_nil ?_
    refine jn_keep [0] [100, 101] (.cons rfl .nil) (.cons rfl (.cons rfl .nil)) ?_
    exact jn_finI0 (s0 := 0) (sv := svPtr 100 101 1 pb po _ _ _) Try.results83 rfl is0_ptr rfl rfl (by simp) (by simp)
  · cases h1

theorem hpop_ok (xs : List Int) (hsm : 0 < xs.length) (hm : xs.length ≤ 1000) : CtI Try.prog 82 (rInt .i64) (uPtr) xs (fun ys => ys = xs.take (xs.length - 1)) [] (.raw (.iface 3 (.int .i64 (gt xs (xs.length - 1))))) := by
  refine ctI_intro (svPtr 100 101 1) (fun _ _ _ _ _ => is0_ptr) Try.func82 rfl rfl rfl rfl rfl ?_
  intro w0 ok0 pb po A cap ex
  refine j_seq ?_
  refine j_region ?_
  refine jg_adr _ rfl _ rfl rfl (op_assign (.base rfl)) ?_
  refine jg_nil ?_
  refine jn_keep [0] [100, 101] (.cons rfl .nil) (.cons rfl (.cons rfl .nil)) ?_
  refine jn_seq (j_seq ?_)
  refine j_region ?_
  refine jg_adr _ rfl _ rfl rfl (op_move (.l1 rfl)) ?_
  refine jg_adr _ rfl _ rfl rfl (op_nilCheck (.base rfl) (.inr ⟨_, rfl⟩)) ?_
  refine jg_adr _ rfl _ rfl rfl (op_oload tyH46 (.b1 rfl) rfl rfl (Lens.id _)) ?_
  refine jg_adr _ rfl _ rfl rfl (op_assign (.base rfl)) ?_
  refine jg_takeL 0 3 rfl rfl rfl ?_
  refine jg_nil ?_
  refine jn_keep [0, 3] [100, 101] (.cons rfl (.cons rfl .nil)) (.cons rfl (.cons rfl .nil)) ?_
  refine jn_seq (j_seq ?_)
  refine j_region ?_
  refine jg_adr _ rfl _ rfl rfl (op_move (.base rfl)) ?_
  refine jg_adr _ rfl _ rfl rfl (op_move (.base rfl)) ?_
  refine jg_adr _ rfl _ rfl rfl (op_len_own Try.underlying46 (.base rfl)) ?_
  refine jg_adr _ rfl _ rfl rfl (op_sub (.base rfl) (.base rfl) (w64 (by omega))) ?_
  refine jg_adr _ rfl _ rfl rfl (op_oindex Try.underlying46 ty3 (.base rfl) (.base rfl) (show ((xs.length : Nat) : Int) - 1 = ((xs.length - 1 : Nat) : Int) from by omega) (by first | omega | (simp; done) | (simp; omega))) ?_
  refine jg_adr _ rfl _ rfl rfl (op_oload ty3 (.base rfl) rfl (List.getElem?_eq_getElem (by first | omega | (simp; done) | (simp; omega))) (Lens.id _)) ?_
  refine jg_adr _ rfl _ rfl rfl (op_assign (.base rfl)) ?_
  refine jg_nil ?_
  refine jn_keep [0, 3, 4] [100, 101] (.cons rfl (.cons rfl (.cons rfl .nil))) (.cons rfl (.cons rfl .nil)) ?_
  refine jn_seq (j_seq ?_)
  refine j_region ?_
  refine jg_adr _ rfl _ rfl rfl (op_move (.base rfl)) ?_
  refine jg_adr _ rfl _ rfl rfl (op_move (.base rfl)) ?_
  refine jg_adr _ rfl _ rfl rfl (op_move (.base rfl)) ?_
  refine jg_adr _ rfl _ rfl rfl (op_len_own Try.underlying46 (.base rfl)) ?_
  refine jg_adr _ rfl _ rfl rfl (op_sub (.base rfl) (.base rfl) (w64 (by omega))) ?_
  refine jg_adr _ rfl _ rfl rfl (op_oslice Try.underlying46 ty3 (.base rfl) rfl ⟨_, _, (.base rfl), (show ((xs.length : Nat) : Int) - 1 = ((xs.length - 1 : Nat) : Int) from by omega)⟩ (by omega) (by omega)) ?_
  refine jg_adr _ rfl _ rfl rfl (op_nilCheck (.base rfl) (.inr ⟨_, rfl⟩)) ?_
  refine jg_giveL 0 19 rfl rfl (fun A2 cap2 => ?_)
  refine jg_os _ rfl (op_ostore (d := (A2, xs.length - 1 - 0, cap2)) tyH46 (.b1 rfl) rfl rfl (Lens.id _) (.raw (.base rfl) rfl)) ?_
  refine jg_shrink 101 (xs.length - 1) rfl ?_
  refine jg_nil ?_
  refine jn_keep [0, 4] [100, 101] (.cons rfl (.cons rfl .nil)) (.cons rfl (.cons rfl .nil)) ?_
  refine jn_seq (j_seq ?_)
  refine j_region ?_
  refine jg_adr _ rfl _ rfl rfl (op_move (.base rfl)) ?_
  refine jg_adr _ rfl _ rfl rfl (op_mkifaceI Try.underlying3 (.base rfl)) ?_
  refine jg_adr _ rfl _ rfl rfl (op_assign (.base rfl)) ?_
  refine jg_nil ?_
  refine jn_keep [0, 2] [100, 101] (.cons rfl (.cons rfl .nil)) (.cons rfl (.cons rfl .nil)) ?_
  refine jn_seq (j_ret ?_)
  exact jr_finI1 (s0 := 0) (sv := svPtr 100 101 1 pb po _ _ _) Try.results82 (res_tmp rfl) rfl (by simp only [Nat.zero_add]; rw [gt_at (by omega)]) rfl is0_ptr rfl rfl (by simp) rfl

end Go.Proofs.Ytemcooggkcneiaa
namespace Go.Proofs.Ytemcooggkcneiaa
open Go.Eng
set_option maxRecDepth 100000
set_option maxHeartbeats 4000000
set_option linter.unusedVariables false
set_option linter.unusedSimpArgs false

theorem par_eq (j : Nat) (h : j < 1000000) : IntKind.wrap .i64 (((j : Int) - 1).tdiv 2) = (((j - 1) / 2 : Nat) : Int) := by
  have e : ((j : Int) - 1).tdiv 2 = (((j - 1) / 2 : Nat) : Int) := by
    cases j with
    | zero => rfl
    | succ n => rw [show ((n + 1 : Nat) : Int) - 1 = (n : Int) by omega, Int.tdiv_eq_ediv_of_nonneg (by omega), show n + 1 - 1 = n by omega]; rfl
  rw [e]
  exact w64 (by omega)

theorem hup_ok (xs : List Int) (j0 : Nat) (h0 : UpI xs j0) (hj0 : j0 < xs.length) (hm : xs.length ≤ 1001) : CtI Try.prog 39 (rInt .i64) (uIfc 45) xs (fun ys => ys.Perm xs ∧ HeapOK ys.length ys) [.raw (.int .i64 (j0 : Nat))] (.raw (.tuple #[])) := by
  refine ctI_intro (svIfc 45 100 101 1) (fun _ _ _ _ _ => is0_ifc) Try.func39 rfl rfl rfl rfl rfl ?_
  intro w0 ok0 pb po A cap ex
  refine j_block ?_
  refine j_loopp (ι := (List Int × Nat × Option Addr × Nat)) (fun (ys, j, A, cap) => ⟨[(0, (svIfc 45 100 101 1 pb po) A ys.length cap), (1, .raw (.int .i64 ((j : Nat))))], [(100, ⟨rHd, [(A, (ys).length, cap)]⟩), (101, ⟨rInt .i64, ys⟩)]⟩) (fun (ys, j, A, cap) => ys.Perm xs ∧ UpI ys j ∧ j < ys.length) (fun (ys, j, A, cap) => j) (xs, j0, A, cap) (⟨.refl _, h0, hj0⟩) (fun a w hi => (Sub.inv ⟨(by repeat (first | exact SubS_nil | refine SubS_cons rfl (by first | rfl | (simp; done) | assumption) ?_)), (by repeat (first | exact SubH_nil | refine SubH_cons rfl (by first | rfl | (simp; done) | assumption) ?_))⟩ hi)) ?_
  rintro ⟨ys, j, A, cap⟩ ⟨hp, hu, hj⟩
  have hlen := hp.length_eq
  refine j_block (j_seq ?_)
  refine j_region ?_
  refine jg_adr _ rfl _ rfl rfl (op_move (.base rfl)) ?_
  refine jg_adr _ rfl _ rfl rfl (op_sub (.base rfl) (.base rfl) (w64 (by omega))) ?_
  refine jg_adr _ rfl _ rfl rfl (op_quo (.base rfl) (.base rfl) (by omega) (par_eq j (by omega))) ?_
  refine jg_adr _ rfl _ rfl rfl (op_assign (.base rfl)) ?_
  refine jg_nil ?_
  refine jn_keep [0, 1, 4] [100, 101] (.cons rfl (.cons rfl (.cons rfl .nil))) (.cons rfl (.cons rfl .nil)) ?_
  refine jn_seq (j_seq (j_seq ?_))
  refine j_region ?_
  refine jg_adr _ rfl _ rfl rfl (op_move (.base rfl)) ?_
  refine jg_adr _ rfl _ rfl rfl (op_move (.base rfl)) ?_
  refine jg_adr _ rfl _ rfl rfl (op_eql (.base rfl) (.base rfl)) ?_
  refine jg_adr _ rfl _ rfl rfl (op_move (.base rfl)) ?_
  refine jg_gd _ _ _ _ _ _ rfl rfl rfl rfl rfl (fun hg => op_move (.base rfl)) ?_
  refine jg_gd _ _ _ _ _ _ rfl rfl rfl rfl rfl (fun hg => op_move (.base rfl)) ?_
  refine jg_gd _ _ _ _ _ _ rfl rfl rfl rfl rfl (fun hg => op_move (.base rfl)) ?_
  refine jg_gd _ _ _ _ _ _ rfl rfl rfl rfl rfl (fun hg => op_invokeR (hless_ok ys j ((j - 1) / 2) hj (by omega)) mt_less Try.underlying45 tyH46 (.gd rfl hg) is0_ifc rfl rfl rfl rfl rfl (.cons (.gd rfl hg) rfl (.cons (.gd rfl hg) rfl .nil)) flat_raw) ?_
  refine jg_gd _ _ _ _ _ _ rfl rfl rfl rfl rfl (fun hg => op_not (.gd rfl hg)) ?_
  refine jg_adr _ rfl _ rfl rfl (op_pick_or (.base rfl) (.base rfl) rfl (by intro h; first | (rw [h]; rfl) | (rw [hg, h]; rfl) | (rw [h, hg]; rfl) | simp_all)) ?_
  refine jg_nil ?_
  refine jn_keep [0, 1, 4, 17] [100, 101] (.cons rfl (.cons rfl (.cons rfl (.cons rfl .nil)))) (.cons rfl (.cons rfl .nil)) ?_
  refine jn_seq ?_
  refine j_cond rfl (fun h1 => ?_) (fun h1 => ?_)
  · have hh : HeapOK ys.length ys := by
      by_cases e : j = 0
      · subst e; exact up_zero hu
      · exact up_stop hu (by
          simp at h1
          rcases h1 with h1 | h1
          · omega
          · omega)
    refine j_exit (je_seq (je_other rfl (je_loop (je_blk ?_))))
    exact jn_finI0 (s0 := 0) Try.results39 rfl is0_ifc rfl rfl rfl ⟨hp, hh⟩
  · have h1a : 0 < j := by simp at h1; omega
    have h1b : gt ys j < gt ys ((j - 1) / 2) := by simp at h1; omega
    refine j_skip (jn_seq (j_seq ?_))
    refine j_region ?_
    refine jg_adr _ rfl _ rfl rfl (op_move (.base rfl)) ?_
    refine jg_adr _ rfl _ rfl rfl (op_move (.base rfl)) ?_
    refine jg_adr _ rfl _ rfl rfl (op_move (.base rfl)) ?_
    refine jg_callI (c0 := 0) (nb := 100) (nm := 101) (pb := pb) (po := po) (svIfc 45 100 101 1 pb po) [] [4] (hswap_ok ys ((j - 1) / 2) j (by omega) hj) rfl rfl rfl (fun _ _ _ => is0_ifc) (fun β a w hi => hr_invH2 hi (hswap_ok ys ((j - 1) / 2) j (by omega) hj).ent mt_swap Try.underlying45 tyH46 (.base rfl) is0_ifc rfl) rfl rfl rfl rfl (.cons (.base rfl) (.cons (.base rfl) .nil)) rfl rfl rfl rfl (.free rfl rfl (.nil)) ?_
    intro ys2 A2 cap2 hq
    subst hq
    refine jg_nil ?_
    refine jn_keep [0, 4] [100, 101] (.cons rfl (.cons rfl .nil)) (.cons rfl (.cons rfl .nil)) ?_
    refine jn_seq ?_
    refine j_region ?_
    refine jg_adr _ rfl _ rfl rfl (op_move (.base rfl)) ?_
    refine jg_adr _ rfl _ rfl rfl (op_assign (.base rfl)) ?_
    refine jg_nil ?_
    refine jn_keep [0, 1] [100, 101] (.cons rfl (.cons rfl .nil)) (.cons rfl (.cons rfl .nil)) ?_
    refine jn_blk ?_
    exact jn_loop (fun a w hi => ⟨(sw ys ((j - 1) / 2) j, (j - 1) / 2, A2, cap2), (by first | omega | (simp; omega)), (⟨(sw_perm (by omega) hj).trans hp, up_step hu hj h1a h1b, by rw [sw_len]; omega⟩), (Sub.inv ⟨(by repeat (first | exact SubS_nil | refine SubS_cons rfl (by first | rfl | (simp; done) | assumption) ?_)), (by repeat (first | exact SubH_nil | refine SubH_cons rfl (by first | rfl | (simp; done) | assumption) ?_))⟩ hi)⟩)

theorem hdown_ok (xs : List Int) (n0 : Nat) (h0 : DnI n0 xs 0) (hn : n0 ≤ xs.length) (hm : xs.length ≤ 1001) : CtI Try.prog 40 (rInt .i64) (uIfc 45) xs (fun ys => ys.Perm xs ∧ HeapOK n0 ys ∧ gt ys n0 = gt xs n0) [.raw (.int .i64 0), .raw (.int .i64 (n0 : Nat))] (.tv rSomeB ()) := by
  refine ctI_intro (svIfc 45 100 101 1) (fun _ _ _ _ _ => is0_ifc) Try.func40 rfl rfl rfl rfl rfl ?_
  intro w0 ok0 pb po A cap ex
  refine j_seq ?_
  refine j_region ?_
  refine jg_adr _ rfl _ rfl rfl (op_assign (.base rfl)) ?_
  refine jg_nil ?_
  refine jn_keep [0, 1, 2] [100, 101] (.cons rfl (.cons rfl (.cons rfl .nil))) (.cons rfl (.cons rfl .nil)) ?_
  refine jn_seq (j_seq ?_)
  refine j_region ?_
  refine jg_adr _ rfl _ rfl rfl (op_move (.base rfl)) ?_
  refine jg_adr _ rfl _ rfl rfl (op_assign (.base rfl)) ?_
  refine jg_nil ?_
  refine jn_keep [0, 1, 2, 7] [100, 101] (.cons rfl (.cons rfl (.cons rfl (.cons rfl .nil)))) (.cons rfl (.cons rfl .nil)) ?_
  refine jn_seq (j_seq (j_block ?_))
  refine j_loopp (ι := (List Int × Nat × Option Addr × Nat)) (fun (ys, i, A, cap) => ⟨[(0, (svIfc 45 100 101 1 pb po) A ys.length cap), (1, .raw (.int .i64 (0))), (2, .raw (.int .i64 ((n0 : Nat)))), (7, .raw (.int .i64 ((i : Nat))))], [(100, ⟨rHd, [(A, (ys).length, cap)]⟩), (101, ⟨rInt .i64, ys⟩)]⟩) (fun (ys, i, A, cap) => ys.Perm xs ∧ DnI n0 ys i ∧ i ≤ n0 ∧ gt ys n0 = gt xs n0) (fun (ys, i, A, cap) => n0 - i) (xs, 0, A, cap) (⟨.refl _, h0, Nat.zero_le _, rfl⟩) (fun a w hi => (Sub.inv ⟨(by repeat (first | exact SubS_nil | refine SubS_cons rfl (by first | rfl | (simp; done) | assumption) ?_)), (by repeat (first | exact SubH_nil | refine SubH_cons rfl (by first | rfl | (simp; done) | assumption) ?_))⟩ hi)) ?_
  rintro ⟨ys, i, A, cap⟩ ⟨hp, hd, hi0, ht⟩
  have hlen := hp.length_eq
  refine j_block (j_seq ?_)
  refine j_region ?_
  refine jg_adr _ rfl _ rfl rfl (op_move (.base rfl)) ?_
  refine jg_adr _ rfl _ rfl rfl (op_mul (.base rfl) (.base rfl) (w64 (by omega))) ?_
  refine jg_adr _ rfl _ rfl rfl (op_add (.base rfl) (.base rfl) (w64 (by omega))) ?_
  refine jg_adr _ rfl _ rfl rfl (op_assign (.base rfl)) ?_
  rw [show (2 * (i : Int) + 1) = ((2 * i + 1 : Nat) : Int) from by omega]
  refine jg_nil ?_
  refine jn_keep [0, 1, 2, 7, 8] [100, 101] (.cons rfl (.cons rfl (.cons rfl (.cons rfl (.cons rfl .nil))))) (.cons rfl (.cons rfl .nil)) ?_
  refine jn_seq (j_seq (j_seq ?_))
  refine j_region ?_
  refine jg_adr _ rfl _ rfl rfl (op_move (.base rfl)) ?_
  refine jg_adr _ rfl _ rfl rfl (op_move (.base rfl)) ?_
  refine jg_adr _ rfl _ rfl rfl (op_geq (.base rfl) (.base rfl)) ?_
  refine jg_adr _ rfl _ rfl rfl (op_move (.base rfl)) ?_
  refine jg_gd _ _ _ _ _ _ rfl rfl rfl rfl rfl (fun hg => op_move (.base rfl)) ?_
  refine jg_gd _ _ _ _ _ _ rfl rfl rfl rfl rfl (fun hg => op_lss (.gd rfl hg) (.base rfl)) ?_
  refine jg_adr _ rfl _ rfl rfl (op_pick_or (.base rfl) (.base rfl) rfl (by intro h; first | (rw [h]; rfl) | (rw [hg, h]; rfl) | (rw [h, hg]; rfl) | simp_all)) ?_
  refine jg_nil ?_
  refine jn_keep [0, 1, 2, 7, 8, 21] [100, 101] (.cons rfl (.cons rfl (.cons rfl (.cons rfl (.cons rfl (.cons rfl .nil)))))) (.cons rfl (.cons rfl .nil)) ?_
  refine jn_seq ?_
  refine j_cond rfl (fun h3 => ?_) (fun h3 => ?_)
  · have hh : HeapOK n0 ys := dn_end hd (by simp at h3; omega)
    refine j_exit (je_seq (je_other rfl (je_loop (je_blk (jn_seq (j_seq ?_))))))
    refine j_region ?_
    refine jg_adr _ rfl _ rfl rfl (op_move (.base rfl)) ?_
    refine jg_adr _ rfl _ rfl rfl (op_move (.base rfl)) ?_
    refine jg_adr _ rfl _ rfl rfl (op_gtr (.base rfl) (.base rfl)) ?_
    refine jg_adr _ rfl _ rfl rfl (op_assign (.base rfl)) ?_
    refine jg_nil ?_
    refine jn_keep [0, 6] [100, 101] (.cons rfl (.cons rfl .nil)) (.cons rfl (.cons rfl .nil)) ?_
    refine jn_seq (j_ret ?_)
    refine jr_someB 6 rfl ?_
    exact jr_finI1 (s0 := 0) Try.results40 (res_tmp rfl) rfl rfl rfl is0_ifc rfl rfl rfl ⟨hp, hh, ht⟩
  · have h3a : 2 * i + 1 < n0 := by simp at h3; omega
    refine j_skip (jn_seq (j_seq ?_))
    refine j_region ?_
    refine jg_adr _ rfl _ rfl rfl (op_move (.base rfl)) ?_
    refine jg_adr _ rfl _ rfl rfl (op_assign (.base rfl)) ?_
    refine jg_nil ?_
    refine jn_keep [0, 1, 2, 7, 8, 9] [100, 101] (.cons rfl (.cons rfl (.cons rfl (.cons rfl (.cons rfl (.cons rfl .nil)))))) (.cons rfl (.cons rfl .nil)) ?_
    refine jn_seq (j_seq (j_seq ?_))
    refine j_region ?_
    refine jg_adr _ rfl _ rfl rfl (op_move (.base rfl)) ?_
    refine jg_adr _ rfl _ rfl rfl (op_add (.base rfl) (.base rfl) (w64 (by omega))) ?_
    refine jg_adr _ rfl _ rfl rfl (op_assign (.base rfl)) ?_
    rw [show (((2 * i + 1 : Nat) : Int) + 1) = ((2 * i + 2 : Nat) : Int) from by omega]
    refine jg_nil ?_
    refine jn_keep [0, 1, 2, 7, 8, 9, 10] [100, 101] (.cons rfl (.cons rfl (.cons rfl (.cons rfl (.cons rfl (.cons rfl (.cons rfl .nil))))))) (.cons rfl (.cons rfl .nil)) ?_
    refine jn_seq (j_seq ?_)
    refine j_region ?_
    refine jg_adr _ rfl _ rfl rfl (op_move (.base rfl)) ?_
    refine jg_adr _ rfl _ rfl rfl (op_move (.base rfl)) ?_
    refine jg_adr _ rfl _ rfl rfl (op_lss (.base rfl) (.base rfl)) ?_
    refine jg_adr _ rfl _ rfl rfl (op_move (.base rfl)) ?_
    refine jg_gd _ _ _ _ _ _ rfl rfl rfl rfl rfl (fun hg => op_move (.base rfl)) ?_
    refine jg_gd _ _ _ _ _ _ rfl rfl rfl rfl rfl (fun hg => op_move (.base rfl)) ?_
    refine jg_gd _ _ _ _ _ _ rfl rfl rfl rfl rfl (fun hg => op_move (.base rfl)) ?_
    refine jg_gd _ _ _ _ _ _ rfl rfl rfl rfl rfl (fun hg => op_invokeR (hless_ok ys (2 * i + 2) (2 * i + 1) (by simp at hg; omega) (by omega)) mt_less Try.underlying45 tyH46 (.gd rfl hg) is0_ifc rfl rfl rfl rfl rfl (.cons (.gd rfl hg) rfl (.cons (.gd rfl hg) rfl .nil)) flat_raw) ?_
    refine jg_adr _ rfl _ rfl rfl (op_pick_and (.base rfl) (.base rfl) rfl (by intro h; first | (rw [h]; rfl) | (rw [hg, h]; rfl) | (rw [h, hg]; rfl) | simp_all)) ?_
    refine jg_nil ?_
    refine jn_keep [0, 1, 2, 7, 9, 10, 33] [100, 101] (.cons rfl (.cons rfl (.cons rfl (.cons rfl (.cons rfl (.cons rfl (.cons rfl .nil))))))) (.cons rfl (.cons rfl .nil)) ?_
    refine jn_seq ?_
    refine j_cond rfl (fun h6 => ?_) (fun h6 => ?_)
    · obtain ⟨jj, hjj⟩ : ∃ jj, jj = 2 * i + 2 := ⟨_, rfl⟩
      have hjn : jj < n0 := by simp at h6; omega
      have hj0 : 0 < jj := by omega
      have hjp : (jj - 1) / 2 = i := by omega
      have hm : ∀ k, 0 < k → k < n0 → (k - 1) / 2 = i → gt ys jj ≤ gt ys k := fun k a b c => by
        have h6 : gt ys (2 * i + 2) < gt ys (2 * i + 1) := by simp at h6; omega
        subst hjj
        rcases (show k = 2 * i + 1 ∨ k = 2 * i + 2 by omega) with e | e
        · subst e; omega
        · subst e; omega
      rw [← hjj]
      refine j_region ?_
      refine jg_adr _ rfl _ rfl rfl (op_move (.base rfl)) ?_
      refine jg_adr _ rfl _ rfl rfl (op_assign (.base rfl)) ?_
      refine jg_nil ?_
      refine jn_keep [0, 1, 2, 7, 9] [100, 101] (.cons rfl (.cons rfl (.cons rfl (.cons rfl (.cons rfl .nil))))) (.cons rfl (.cons rfl .nil)) ?_
      refine jn_seq (j_seq (j_seq ?_))
      refine j_region ?_
      refine jg_adr _ rfl _ rfl rfl (op_move (.base rfl)) ?_
      refine jg_adr _ rfl _ rfl rfl (op_move (.base rfl)) ?_
      refine jg_adr _ rfl _ rfl rfl (op_move (.base rfl)) ?_
      refine jg_adr _ rfl _ rfl rfl (op_invokeR (hless_ok ys jj i (by omega) (by omega)) mt_less Try.underlying45 tyH46 (.base rfl) is0_ifc rfl rfl rfl rfl rfl (.cons (.base rfl) rfl (.cons (.base rfl) rfl .nil)) flat_raw) ?_
      refine jg_adr _ rfl _ rfl rfl (op_not (.base rfl)) ?_
      refine jg_nil ?_
      refine jn_keep [0, 1, 2, 7, 9, 39] [100, 101] (.cons rfl (.cons rfl (.cons rfl (.cons rfl (.cons rfl (.cons rfl .nil)))))) (.cons rfl (.cons rfl .nil)) ?_
      refine jn_seq ?_
      refine j_cond rfl (fun h8 => ?_) (fun h8 => ?_)
      · have hh : HeapOK n0 ys := dn_stop hd hm (by simpa using h8)
        refine j_exit (je_seq (je_other rfl (je_loop (je_blk (jn_seq (j_seq ?_))))))
        refine j_region ?_
        refine jg_adr _ rfl _ rfl rfl (op_move (.base rfl)) ?_
        refine jg_adr _ rfl _ rfl rfl (op_move (.base rfl)) ?_
        refine jg_adr _ rfl _ rfl rfl (op_gtr (.base rfl) (.base rfl)) ?_
        refine jg_adr _ rfl _ rfl rfl (op_assign (.base rfl)) ?_
        refine jg_nil ?_
        refine jn_keep [0, 6] [100, 101] (.cons rfl (.cons rfl .nil)) (.cons rfl (.cons rfl .nil)) ?_
        refine jn_seq (j_ret ?_)
        refine jr_someB 6 rfl ?_
        exact jr_finI1 (s0 := 0) Try.results40 (res_tmp rfl) rfl rfl rfl is0_ifc rfl rfl rfl ⟨hp, hh, ht⟩
      · have hl : gt ys jj < gt ys i := by simpa using h8
        refine j_skip (jn_seq (j_seq ?_))
        refine j_region ?_
        refine jg_adr _ rfl _ rfl rfl (op_move (.base rfl)) ?_
        refine jg_adr _ rfl _ rfl rfl (op_move (.base rfl)) ?_
        refine jg_adr _ rfl _ rfl rfl (op_move (.base rfl)) ?_
        refine jg_callI (c0 := 0) (nb := 100) (nm := 101) (pb := pb) (po := po) (svIfc 45 100 101 1 pb po) [] [1, 2, 9] (hswap_ok ys i jj (by omega) (by omega)) rfl rfl rfl (fun _ _ _ => is0_ifc) (fun β a w hi => hr_invH2 hi (hswap_ok ys i jj (by omega) (by omega)).ent mt_swap Try.underlying45 tyH46 (.base rfl) is0_ifc rfl) rfl rfl rfl rfl (.cons (.base rfl) (.cons (.base rfl) .nil)) rfl rfl rfl rfl (.free rfl rfl (.free rfl rfl (.free rfl rfl (.nil)))) ?_
        intro ys2 A2 cap2 hq
        subst hq
        refine jg_nil ?_
        refine jn_keep [0, 1, 2, 9] [100, 101] (.cons rfl (.cons rfl (.cons rfl (.cons rfl .nil)))) (.cons rfl (.cons rfl .nil)) ?_
        refine jn_seq ?_
        refine j_region ?_
        refine jg_adr _ rfl _ rfl rfl (op_move (.base rfl)) ?_
        refine jg_adr _ rfl _ rfl rfl (op_assign (.base rfl)) ?_
        refine jg_nil ?_
        refine jn_keep [0, 1, 2, 7] [100, 101] (.cons rfl (.cons rfl (.cons rfl (.cons rfl .nil)))) (.cons rfl (.cons rfl .nil)) ?_
        refine jn_blk ?_
        exact jn_loop (fun a w hi => ⟨(sw ys i jj, jj, A2, cap2), (by first | omega | (simp; omega)), (⟨(sw_perm (by omega) (by omega)).trans hp, dn_step hd (by omega) hjn hj0 hjp hm hl, by omega, by rw [sw_get (by omega) (by omega), if_neg (by omega), if_neg (by omega)]; exact ht⟩), (Sub.inv ⟨(by repeat (first | exact SubS_nil | refine SubS_cons rfl (by first | rfl | (simp; done) | assumption) ?_)), (by repeat (first | exact SubH_nil | refine SubH_cons rfl (by first | rfl | (simp; done) | assumption) ?_))⟩ hi)⟩)
    · obtain ⟨jj, hjj⟩ : ∃ jj, jj = 2 * i + 1 := ⟨_, rfl⟩
      have hjn : jj < n0 := by omega
      have hj0 : 0 < jj := by omega
      have hjp : (jj - 1) / 2 = i := by omega
      have hm : ∀ k, 0 < k → k < n0 → (k - 1) / 2 = i → gt ys jj ≤ gt ys k := fun k a b c => by
        subst hjj
        rcases (show k = 2 * i + 1 ∨ k = 2 * i + 2 by omega) with e | e
        · subst e; omega
        · subst e; simp at h6; have := h6 (by omega); omega
      rw [← hjj]
      refine j_skip (jn_seq (j_seq (j_seq ?_)))
      refine j_region ?_
      refine jg_adr _ rfl _ rfl rfl (op_move (.base rfl)) ?_
      refine jg_adr _ rfl _ rfl rfl (op_move (.base rfl)) ?_
      refine jg_adr _ rfl _ rfl rfl (op_move (.base rfl)) ?_
      refine jg_adr _ rfl _ rfl rfl (op_invokeR (hless_ok ys jj i (by omega) (by omega)) mt_less Try.underlying45 tyH46 (.base rfl) is0_ifc rfl rfl rfl rfl rfl (.cons (.base rfl) rfl (.cons (.base rfl) rfl .nil)) flat_raw) ?_
      refine jg_adr _ rfl _ rfl rfl (op_not (.base rfl)) ?_
      refine jg_nil ?_
      refine jn_keep [0, 1, 2, 7, 9, 39] [100, 101] (.cons rfl (.cons rfl (.cons rfl (.cons rfl (.cons rfl (.cons rfl .nil)))))) (.cons rfl (.cons rfl .nil)) ?_
      refine jn_seq ?_
      refine j_cond rfl (fun h8 => ?_) (fun h8 => ?_)
      · have hh : HeapOK n0 ys := dn_stop hd hm (by simpa using h8)
        refine j_exit (je_seq (je_other rfl (je_loop (je_blk (jn_seq (j_seq ?_))))))
        refine j_region ?_
        refine jg_adr _ rfl _ rfl rfl (op_move (.base rfl)) ?_
        refine jg_adr _ rfl _ rfl rfl (op_move (.base rfl)) ?_
        refine jg_adr _ rfl _ rfl rfl (op_gtr (.base rfl) (.base rfl)) ?_
        refine jg_adr _ rfl _ rfl rfl (op_assign (.base rfl)) ?_
        refine jg_nil ?_
        refine jn_keep [0, 6] [100, 101] (.cons rfl (.cons rfl .nil)) (.cons rfl (.cons rfl .nil)) ?_
        refine jn_seq (j_ret ?_)
        refine jr_someB 6 rfl ?_
        exact jr_finI1 (s0 := 0) Try.results40 (res_tmp rfl) rfl rfl rfl is0_ifc rfl rfl rfl ⟨hp, hh, ht⟩
      · have hl : gt ys jj < gt ys i := by simpa using h8
        refine j_skip (jn_seq (j_seq ?_))
        refine j_region ?_
        refine jg_adr _ rfl _ rfl rfl (op_move (.base rfl)) ?_
        refine jg_adr _ rfl _ rfl rfl (op_move (.base rfl)) ?_
        refine jg_adr _ rfl _ rfl rfl (op_move (.base rfl)) ?_
        refine jg_callI (c0 := 0) (nb := 100) (nm := 101) (pb := pb) (po := po) (svIfc 45 100 101 1 pb po) [] [1, 2, 9] (hswap_ok ys i jj (by omega) (by omega)) rfl rfl rfl (fun _ _ _ => is0_ifc) (fun β a w hi => hr_invH2 hi (hswap_ok ys i jj (by omega) (by omega)).ent mt_swap Try.underlying45 tyH46 (.base rfl) is0_ifc rfl) rfl rfl rfl rfl (.cons (.base rfl) (.cons (.base rfl) .nil)) rfl rfl rfl rfl (.free rfl rfl (.free rfl rfl (.free rfl rfl (.nil)))) ?_
        intro ys2 A2 cap2 hq
        subst hq
        refine jg_nil ?_
        refine jn_keep [0, 1, 2, 9] [100, 101] (.cons rfl (.cons rfl (.cons rfl (.cons rfl .nil)))) (.cons rfl (.cons rfl .nil)) ?_
        refine jn_seq ?_
        refine j_region ?_
        refine jg_adr _ rfl _ rfl rfl (op_move (.base rfl)) ?_
        refine jg_adr _ rfl _ rfl rfl (op_assign (.base rfl)) ?_
        refine jg_nil ?_
        refine jn_keep [0, 1, 2, 7] [100, 101] (.cons rfl (.cons rfl (.cons rfl (.cons rfl .nil)))) (.cons rfl (.cons rfl .nil)) ?_
        refine jn_blk ?_
        exact jn_loop (fun a w hi => ⟨(sw ys i jj, jj, A2, cap2), (by first | omega | (simp; omega)), (⟨(sw_perm (by omega) (by omega)).trans hp, dn_step hd (by omega) hjn hj0 hjp hm hl, by omega, by rw [sw_get (by omega) (by omega), if_neg (by omega), if_neg (by omega)]; exact ht⟩), (Sub.inv ⟨(by repeat (first | exact SubS_nil | refine SubS_cons rfl (by first | rfl | (simp; done) | assumption) ?_)), (by repeat (first | exact SubH_nil | refine SubH_cons rfl (by first | rfl | (simp; done) | assumption) ?_))⟩ hi)⟩)

theorem heapPush_ok (xs : List Int) (x : Int) (hh : HeapOK xs.length xs) (hm : xs.length ≤ 1000) : CtI Try.prog 23 (rInt .i64) (uIfc 45) xs (fun ys => ys.Perm (x :: xs) ∧ HeapOK ys.length ys) [.raw (.iface 3 (.int .i64 x))] (.raw (.tuple #[])) := by
  refine ctI_intro (svIfc 45 100 101 1) (fun _ _ _ _ _ => is0_ifc) Try.func23 rfl rfl rfl rfl rfl ?_
  intro w0 ok0 pb po A cap ex
  refine j_seq ?_
  refine j_region ?_
  refine jg_adr _ rfl _ rfl rfl (op_move (.base rfl)) ?_
  refine jg_adr _ rfl _ rfl rfl (op_move (.base rfl)) ?_
  refine jg_callI (c0 := 0) (nb := 100) (nm := 101) (pb := pb) (po := po) (svIfc 45 100 101 1 pb po) [] [] (hpush_ok xs x hm) rfl rfl rfl (fun _ _ _ => is0_ifc) (fun β a w hi => hr_invP2 hi (hpush_ok xs x hm).ent mt_push Try.underlying45 (.base rfl) is0_ifc) rfl rfl rfl rfl (.cons (.base rfl) .nil) rfl rfl rfl rfl (.nil) ?_
  intro ys2 A2 cap2 hq
  subst hq
  refine jg_nil ?_
  refine jn_keep [0] [100, 101] (.cons rfl .nil) (.cons rfl (.cons rfl .nil)) ?_
  refine jn_seq ?_
  have hxl : (xs ++ [x]).length = xs.length + 1 := by simp
  refine j_region ?_
  refine jg_adr _ rfl _ rfl rfl (op_move (.base rfl)) ?_
  refine jg_adr _ rfl _ rfl rfl (op_move (.base rfl)) ?_
  refine jg_adr _ rfl _ rfl rfl (op_invokeR (hlen_ok (xs ++ [x]) (by (try simp); omega)) mt_len Try.underlying45 tyH46 (.base rfl) is0_ifc rfl rfl rfl rfl rfl .nil flat_raw) ?_
  refine jg_adr _ rfl _ rfl rfl (op_sub (.base rfl) (.base rfl) (w64 (by omega))) ?_
  rw [show (((xs ++ [x]).length : Nat) : Int) - 1 = ((xs.length : Nat) : Int) from by simp]
  refine jg_callI (c0 := 0) (nb := 100) (nm := 101) (pb := pb) (po := po) (svIfc 45 100 101 1 pb po) [] [] (hup_ok (xs ++ [x]) xs.length (up_start hh) (by simp) (by simp; omega)) rfl rfl rfl (fun _ _ _ => is0_ifc) (fun β a w hi => hr_call2 hi (hup_ok (xs ++ [x]) xs.length (up_start hh) (by simp) (by simp; omega)).ent (.base rfl) is0_ifc) rfl rfl rfl rfl (.cons (.base rfl) .nil) rfl rfl rfl rfl (.nil) ?_
  intro ys3 A3 cap3 hq
  refine jg_nil ?_
  refine jn_keep [0] [100, 101] (.cons rfl .nil) (.cons rfl (.cons rfl .nil)) ?_
  exact jn_finI0 (s0 := 0) Try.results23 rfl is0_ifc rfl rfl rfl ⟨hq.1.trans (List.perm_append_comm.trans (List.Perm.refl _)), hq.2⟩

theorem heapPop_ok (xs : List Int) (hh : HeapOK xs.length xs) (h0 : 0 < xs.length) (hm : xs.length ≤ 1000) : CtI Try.prog 25 (rInt .i64) (uIfc 45) xs (fun ys => xs.Perm (gt xs 0 :: ys) ∧ HeapOK ys.length ys) [] (.raw (.iface 3 (.int .i64 (gt xs 0)))) := by
  refine ctI_intro (svIfc 45 100 101 1) (fun _ _ _ _ _ => is0_ifc) Try.func25 rfl rfl rfl rfl rfl ?_
  intro w0 ok0 pb po A cap ex
  refine j_seq ?_
  refine j_region ?_
  refine jg_adr _ rfl _ rfl rfl (op_assign (.base rfl)) ?_
  refine jg_nil ?_
  refine jn_keep [0] [100, 101] (.cons rfl .nil) (.cons rfl (.cons rfl .nil)) ?_
  refine jn_seq (j_seq ?_)
  refine j_region ?_
  refine jg_adr _ rfl _ rfl rfl (op_move (.base rfl)) ?_
  refine jg_adr _ rfl _ rfl rfl (op_invokeR (hlen_ok xs (by (try simp); omega)) mt_len Try.underlying45 tyH46 (.base rfl) is0_ifc rfl rfl rfl rfl rfl .nil flat_raw) ?_
  refine jg_adr _ rfl _ rfl rfl (op_sub (.base rfl) (.base rfl) (w64 (by omega))) ?_
  refine jg_adr _ rfl _ rfl rfl (op_assign (.base rfl)) ?_
  rw [show ((xs.length : Nat) : Int) - 1 = ((xs.length - 1 : Nat) : Int) from by omega]
  refine jg_nil ?_
  refine jn_keep [0, 3] [100, 101] (.cons rfl (.cons rfl .nil)) (.cons rfl (.cons rfl .nil)) ?_
  refine jn_seq (j_seq ?_)
  refine j_region ?_
  refine jg_adr _ rfl _ rfl rfl (op_move (.base rfl)) ?_
  refine jg_adr _ rfl _ rfl rfl (op_move (.base rfl)) ?_
  rw [show (Value.int IntKind.i64 0) = Value.int IntKind.i64 ((0 : Nat) : Int) from rfl]
  refine jg_callI (c0 := 0) (nb := 100) (nm := 101) (pb := pb) (po := po) (svIfc 45 100 101 1 pb po) [] [3] (hswap_ok xs 0 (xs.length - 1) (by omega) (by omega)) rfl rfl rfl (fun _ _ _ => is0_ifc) (fun β a w hi => hr_invH2 hi (hswap_ok xs 0 (xs.length - 1) (by omega) (by omega)).ent mt_swap Try.underlying45 tyH46 (.base rfl) is0_ifc rfl) rfl rfl rfl rfl (.cons (.base rfl) (.cons (.base rfl) .nil)) rfl rfl rfl rfl (.free rfl rfl (.nil)) ?_
  intro ys2 A2 cap2 hq
  subst hq
  refine jg_nil ?_
  refine jn_keep [0, 3] [100, 101] (.cons rfl (.cons rfl .nil)) (.cons rfl (.cons rfl .nil)) ?_
  refine jn_seq (j_seq ?_)
  refine j_region ?_
  refine jg_adr _ rfl _ rfl rfl (op_move (.base rfl)) ?_
  refine jg_adr _ rfl _ rfl rfl (op_move (.base rfl)) ?_
  refine jg_callI (c0 := 0) (nb := 100) (nm := 101) (pb := pb) (po := po) (svIfc 45 100 101 1 pb po) [] [] (hdown_ok (sw xs 0 (xs.length - 1)) (xs.length - 1) (dn_start hh h0) (by rw [sw_len]; omega) (by rw [sw_len]; omega)) rfl rfl rfl (fun _ _ _ => is0_ifc) (fun β a w hi => hr_call2 hi (hdown_ok (sw xs 0 (xs.length - 1)) (xs.length - 1) (dn_start hh h0) (by rw [sw_len]; omega) (by rw [sw_len]; omega)).ent (.base rfl) is0_ifc) rfl rfl rfl rfl (.cons (.base rfl) (.cons (.base rfl) .nil)) rfl rfl rfl rfl (.nil) ?_
  intro ys3 A3 cap3 hq
  obtain ⟨hq1, hq2, hq3⟩ := hq
  have hl3 : ys3.length = xs.length := by rw [hq1.length_eq, sw_len]
  obtain ⟨pq1, pq2⟩ := pop_perm h0 hq1 hq3
  refine jg_nil ?_
  refine jn_keep [0] [100, 101] (.cons rfl .nil) (.cons rfl (.cons rfl .nil)) ?_
  refine jn_seq (j_seq ?_)
  refine j_region ?_
  refine jg_adr _ rfl _ rfl rfl (op_move (.base rfl)) ?_
  refine jg_callI (c0 := 0) (nb := 100) (nm := 101) (pb := pb) (po := po) (svIfc 45 100 101 1 pb po) [] [] (hpop_ok ys3 (by omega) (by omega)) rfl rfl rfl (fun _ _ _ => is0_ifc) (fun β a w hi => hr_invP2 hi (hpop_ok ys3 (by omega) (by omega)).ent mt_pop Try.underlying45 (.base rfl) is0_ifc) rfl rfl rfl rfl .nil rfl rfl rfl rfl (.nil) ?_
  intro ys4 A4 cap4 hq
  subst hq
  refine jg_adr _ rfl _ rfl rfl (op_assign (.base rfl)) ?_
  refine jg_nil ?_
  refine jn_keep [0, 2] [100, 101] (.cons rfl (.cons rfl .nil)) (.cons rfl (.cons rfl .nil)) ?_
  refine jn_seq (j_ret ?_)
  exact jr_finI1 (s0 := 0) Try.results25 (res_tmp rfl) rfl (by rw [hl3, pq2]) rfl is0_ifc rfl rfl rfl ⟨by rw [hl3]; exact pq1, by rw [hl3]; exact heap_take hq2 (by omega)⟩

end Go.Proofs.Ytemcooggkcneiaa
