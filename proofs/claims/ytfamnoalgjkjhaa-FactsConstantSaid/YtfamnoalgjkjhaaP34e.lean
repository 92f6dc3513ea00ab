import Derived.Test.YtfamnoalgjkjhaaP34c
import Derived.Test.YtfamnoalgjkjhaaP34d
import Derived.Test.YtfamnoalgjkjhaaM4
namespace Go.Proofs.Ytfamnoalgjkjhaa
open Go.Eng
set_option maxRecDepth 100000
set_option maxHeartbeats 4000000
set_option linter.unusedVariables false
set_option linter.unusedSimpArgs false

theorem sym_triv_of {le : TFact → TFact → Bool} {xs ys : List TFact} {s m' e : Nat} (_ : RotQ xs s m' e ys) {a m b : Nat} (h1 : a ≤ m) (h2 : m ≤ b) (h : a = m ∨ m = b) : Sym le ys a m b ys := sym_triv h1 h2 h

theorem sym_step (f : TFact → TFact → Int) (hc : Cmp f) (N : Nat) (ih : ∀ (xs : List TFact) (ia im ib : Int) (a m b : Nat), ia = a → im = m → ib = b → xs.length ≤ 1000 → b - a < N → a < m → m < b → b ≤ xs.length → Sorted (leF f) (seg xs a m) → Sorted (leF f) (seg xs m b) → CtT Try.prog 47 rFact xs (fun ys => Sym (leF f) xs a m b ys) [.raw (.int .i64 ia), .raw (.int .i64 im), .raw (.int .i64 ib), .tv (rFun2 Try.prog rFact rFact (rInt .i64) (fun _ _ => True)) f] (.raw (.tuple #[]))) (xs : List TFact) (a m b : Nat) (hsm : xs.length ≤ 1000) (hN : b - a ≤ N) (ham : a < m) (hmb : m < b) (hb : b ≤ xs.length) (sA : Sorted (leF f) (seg xs a m)) (sB : Sorted (leF f) (seg xs m b)) : CtT Try.prog 47 rFact xs (fun ys => Sym (leF f) xs a m b ys) [.raw (.int .i64 ((a : Nat) : Int)), .raw (.int .i64 ((m : Nat) : Int)), .raw (.int .i64 ((b : Nat) : Int)), .tv (rFun2 Try.prog rFact rFact (rInt .i64) (fun _ _ => True)) f] (.raw (.tuple #[])) := by
  refine ctT_intro Try.func47 rfl rfl rfl rfl rfl ?_
  intro w0 ok0 b0 o0 cap0 hmax
  unfold maxLen at hmax
  have hpos : 0 < xs.length := by omega
  refine j_seq (j_seq ?_)
  refine j_region ?_
  refine jg_adr _ rfl _ rfl rfl (op_move (.base rfl)) ?_
  refine jg_adr _ rfl _ rfl rfl (op_move (.base rfl)) ?_
  refine jg_adr _ rfl _ rfl rfl (op_sub (.base rfl) (.base rfl) (w64 (by omega))) ?_
  refine jg_adr _ rfl _ rfl rfl (op_eql (.base rfl) (.base rfl)) ?_
  refine jg_nil ?_
  refine jn_keep [0, 1, 2, 3, 4, 28] [100] (.cons rfl (.cons rfl (.cons rfl (.cons rfl (.cons rfl (.cons rfl .nil)))))) (.cons rfl .nil) ?_
  refine jn_seq ?_
  refine j_cond rfl (fun h0 => ?_) (fun h0 => ?_)
  · have h0 : m = a + 1 := by simp at h0; omega
    subst h0
    refine j_seq ?_
    refine j_region ?_
    refine jg_adr _ rfl _ rfl rfl (op_move (.base rfl)) ?_
    refine jg_adr _ rfl _ rfl rfl (op_assign (.base rfl)) ?_
    refine jg_nil ?_
    refine jn_keep [0, 1, 3, 4, 10] [100] (.cons rfl (.cons rfl (.cons rfl (.cons rfl (.cons rfl .nil))))) (.cons rfl .nil) ?_
    refine jn_seq (j_seq ?_)
    refine j_region ?_
    refine jg_adr _ rfl _ rfl rfl (op_move (.base rfl)) ?_
    refine jg_adr _ rfl _ rfl rfl (op_assign (.base rfl)) ?_
    refine jg_nil ?_
    refine jn_keep [0, 1, 4, 10, 11] [100] (.cons rfl (.cons rfl (.cons rfl (.cons rfl (.cons rfl .nil))))) (.cons rfl .nil) ?_
    refine jn_seq (j_seq (j_block ?_))
    refine j_loopp (ι := (Nat × Nat)) (fun (i, j) => ⟨[(0, .both (.own 100 rFact.n 0 xs.length) (.slice (some ⟨b0, o0, none⟩) xs.length cap0)), (1, .raw (.int .i64 ((a : Nat) : Int))), (4, .tv (rFun2 Try.prog rFact rFact (rInt .i64) (fun _ _ => True)) f), (10, .raw (.int .i64 ((i : Nat) : Int))), (11, .raw (.int .i64 ((j : Nat) : Int)))], [(100, ⟨rFact, xs⟩)]⟩) (fun (i, j) => BS (fun h => !leF f (xs.getD (a) (0, (0, (0, ((0, (0, 0)), ((0, 0), 0)))))) (xs.getD (h) (0, (0, (0, ((0, (0, 0)), ((0, 0), 0))))))) (a + 1) b i j) (fun (i, j) => j - i) (a + 1, b) (bs_start (by omega)) (fun a w hi => (Sub.inv ⟨(by repeat (first | exact SubS_nil | refine SubS_cons rfl (by first | rfl | (simp; done) | assumption) ?_)), (by repeat (first | exact SubH_nil | refine SubH_cons rfl (by first | rfl | (simp; done) | assumption) ?_))⟩ hi)) ?_
    rintro ⟨i, j⟩ hbs
    refine j_seq (j_seq ?_)
    refine j_region ?_
    refine jg_adr _ rfl _ rfl rfl (op_move (.base rfl)) ?_
    refine jg_adr _ rfl _ rfl rfl (op_move (.base rfl)) ?_
    refine jg_adr _ rfl _ rfl rfl (op_lss (.base rfl) (.base rfl)) ?_
    refine jg_nil ?_
    refine jn_keep [0, 1, 4, 10, 11, 33] [100] (.cons rfl (.cons rfl (.cons rfl (.cons rfl (.cons rfl (.cons rfl .nil)))))) (.cons rfl .nil) ?_
    refine jn_seq ?_
    refine j_cond rfl (fun h3 => ?_) (fun h3 => ?_)
    · have h3 : i < j := by simp at h3; omega
      obtain ⟨_, _, _, _, _⟩ := id hbs
      refine j_skip (jn_seq (j_block (j_seq ?_)))
      refine j_region ?_
      refine jg_adr _ rfl _ rfl rfl (op_move (.base rfl)) ?_
      refine jg_adr _ rfl _ rfl rfl (op_move (.base rfl)) ?_
      refine jg_adr _ rfl _ rfl rfl (op_add (.base rfl) (.base rfl) (w64 (by omega))) ?_
      refine jg_adr _ rfl _ rfl rfl (op_conv ⟨_, Try.underlying3⟩ Try.underlying72 (.base rfl) (wu64 (by omega))) ?_
      refine jg_adr _ rfl _ rfl rfl (op_shr (.base rfl) (.base rfl) (by omega) half_eq) ?_
      refine jg_adr _ rfl _ rfl rfl (op_conv ⟨_, Try.underlying72⟩ Try.underlying3 (.base rfl) (w64 (by omega))) ?_
      refine jg_adr _ rfl _ rfl rfl (op_assign (.base rfl)) ?_
      refine jg_nil ?_
      refine jn_keep [0, 1, 4, 10, 11, 12] [100] (.cons rfl (.cons rfl (.cons rfl (.cons rfl (.cons rfl (.cons rfl .nil)))))) (.cons rfl .nil) ?_
      refine jn_seq (j_seq ?_)
      refine j_draw mo (by kernel_rfl) (
        AS.cons _ _ rfl (ga_adr rfl rfl rfl (op_move (.base rfl))) (
          AS.cons _ _ rfl (ga_adr rfl rfl rfl (op_move (.base rfl))) (
          AS.cons _ _ rfl (ga_adr rfl rfl rfl (op_move (.base rfl))) (
          AS.cons _ _ rfl (ga_adr rfl rfl rfl (op_oindex Try.underlying22 ty45 (.b1 rfl) (.base rfl) rfl (by first | omega | (simp; done) | (simp; omega)))) (
          AS.cons _ _ rfl (ga_adr rfl rfl rfl (op_oload ty45 (.base rfl) rfl (getD_some (z := ((0, (0, (0, ((0, (0, 0)), ((0, 0), 0))))) : TFact)) (by omega)) (Lens.id _))) (
          AS.cons _ _ rfl (ga_adr rfl rfl rfl (op_move (.base rfl))) (
          AS.cons _ _ rfl (ga_adr rfl rfl rfl (op_move (.base rfl))) (
          AS.cons _ _ rfl (ga_adr rfl rfl rfl (op_oindex Try.underlying22 ty45 (.b1 rfl) (.base rfl) rfl (by first | omega | (simp; done) | (simp; omega)))) (
          AS.cons _ _ rfl (ga_adr rfl rfl rfl (op_oload ty45 (.base rfl) rfl (getD_some (z := ((0, (0, (0, ((0, (0, 0)), ((0, 0), 0))))) : TFact)) (by omega)) (Lens.id _))) (
          AS.cons _ _ rfl (ga_adr rfl rfl rfl (op_callf2 (.base rfl) (.tv (.base rfl)) (.tv (.base rfl)) trivial)) (
          AS.cons _ _ rfl (ga_adr rfl rfl rfl (op_lss (.base rfl) (.base rfl))) (
          AS.nil)))))))))))) ?_
      refine jn_keep [0, 1, 4, 10, 11, 12, 50] [100] (.cons rfl (.cons rfl (.cons rfl (.cons rfl (.cons rfl (.cons rfl (.cons rfl .nil))))))) (.cons rfl .nil) ?_
      refine jn_seq ?_
      refine j_cond rfl (fun h5 => ?_) (fun h5 => ?_)
      · have h5 : (!leF f (xs.getD (a) (0, (0, (0, ((0, (0, 0)), ((0, 0), 0)))))) (xs.getD (((i + j) / 2)) (0, (0, (0, ((0, (0, 0)), ((0, 0), 0))))))) = true := by simpa [leF] using h5
        refine j_region ?_
        refine jg_adr _ rfl _ rfl rfl (op_move (.base rfl)) ?_
        refine jg_adr _ rfl _ rfl rfl (op_add (.base rfl) (.base rfl) (w64 (by omega))) ?_
        refine jg_adr _ rfl _ rfl rfl (op_assign (.base rfl)) ?_
        refine jg_nil ?_
        refine jn_keep [0, 1, 4, 10, 11] [100] (.cons rfl (.cons rfl (.cons rfl (.cons rfl (.cons rfl .nil))))) (.cons rfl .nil) ?_
        refine jn_blk ?_
        first | (have _hh : (!leF f (xs.getD (a) (0, (0, (0, ((0, (0, 0)), ((0, 0), 0)))))) (xs.getD (((i + j) / 2)) (0, (0, (0, ((0, (0, 0)), ((0, 0), 0))))))) = true := h5; exact jn_loop (fun a w hi => ⟨(((i + j) / 2) + 1, j), (by first | omega | (simp; omega)), (bs_t hbs h3 _hh), Sub.inv ⟨(by repeat (first | exact SubS_nil | refine SubS_cons rfl (by first | rfl | (simp; done) | assumption) ?_)), (by repeat (first | exact SubH_nil | refine SubH_cons rfl (by first | rfl | (simp; done) | assumption) ?_))⟩ hi⟩)) | (have _hh : (!leF f (xs.getD (a) (0, (0, (0, ((0, (0, 0)), ((0, 0), 0)))))) (xs.getD (((i + j) / 2)) (0, (0, (0, ((0, (0, 0)), ((0, 0), 0))))))) = false := h5; exact jn_loop (fun a w hi => ⟨(i, ((i + j) / 2)), (by first | omega | (simp; omega)), (bs_f hbs h3 _hh), Sub.inv ⟨(by repeat (first | exact SubS_nil | refine SubS_cons rfl (by first | rfl | (simp; done) | assumption) ?_)), (by repeat (first | exact SubH_nil | refine SubH_cons rfl (by first | rfl | (simp; done) | assumption) ?_))⟩ hi⟩))
      · have h5 : (!leF f (xs.getD (a) (0, (0, (0, ((0, (0, 0)), ((0, 0), 0)))))) (xs.getD (((i + j) / 2)) (0, (0, (0, ((0, (0, 0)), ((0, 0), 0))))))) = false := by (simp [leF] at h5 ⊢; omega)
        refine j_region ?_
        refine jg_adr _ rfl _ rfl rfl (op_move (.base rfl)) ?_
        refine jg_adr _ rfl _ rfl rfl (op_assign (.base rfl)) ?_
        refine jg_nil ?_
        refine jn_keep [0, 1, 4, 10, 11] [100] (.cons rfl (.cons rfl (.cons rfl (.cons rfl (.cons rfl .nil))))) (.cons rfl .nil) ?_
        refine jn_blk ?_
        first | (have _hh : (!leF f (xs.getD (a) (0, (0, (0, ((0, (0, 0)), ((0, 0), 0)))))) (xs.getD (((i + j) / 2)) (0, (0, (0, ((0, (0, 0)), ((0, 0), 0))))))) = true := h5; exact jn_loop (fun a w hi => ⟨(((i + j) / 2) + 1, j), (by first | omega | (simp; omega)), (bs_t hbs h3 _hh), Sub.inv ⟨(by repeat (first | exact SubS_nil | refine SubS_cons rfl (by first | rfl | (simp; done) | assumption) ?_)), (by repeat (first | exact SubH_nil | refine SubH_cons rfl (by first | rfl | (simp; done) | assumption) ?_))⟩ hi⟩)) | (have _hh : (!leF f (xs.getD (a) (0, (0, (0, ((0, (0, 0)), ((0, 0), 0)))))) (xs.getD (((i + j) / 2)) (0, (0, (0, ((0, (0, 0)), ((0, 0), 0))))))) = false := h5; exact jn_loop (fun a w hi => ⟨(i, ((i + j) / 2)), (by first | omega | (simp; omega)), (bs_f hbs h3 _hh), Sub.inv ⟨(by repeat (first | exact SubS_nil | refine SubS_cons rfl (by first | rfl | (simp; done) | assumption) ?_)), (by repeat (first | exact SubH_nil | refine SubH_cons rfl (by first | rfl | (simp; done) | assumption) ?_))⟩ hi⟩))
    · obtain rfl : i = j := by (have := hbs.2.1; simp at h3; omega)
      refine j_exit (je_seq (je_loop (je_blk (jn_seq (j_seq (j_seq ?_))))))
      refine j_region ?_
      refine jg_adr _ rfl _ rfl rfl (op_move (.base rfl)) ?_
      refine jg_adr _ rfl _ rfl rfl (op_assign (.base rfl)) ?_
      refine jg_nil ?_
      refine jn_keep [0, 10, 13] [100] (.cons rfl (.cons rfl (.cons rfl .nil))) (.cons rfl .nil) ?_
      refine jn_seq (j_block ?_)
      refine j_loopp (ι := (List TFact × Nat)) (fun (ys, k) => ⟨[(0, .both (.own 100 rFact.n 0 xs.length) (.slice (some ⟨b0, o0, none⟩) xs.length cap0)), (10, .raw (.int .i64 ((i : Nat) : Int))), (13, .raw (.int .i64 ((k : Nat) : Int)))], [(100, ⟨rFact, ys⟩)]⟩) (fun (ys, k) => MvR xs a k ys ∧ k + 1 ≤ i) (fun (ys, k) => i - k) (xs, a) (⟨mvr_start (by omega), by have := hbs.1; omega⟩) (fun a w hi => (Sub.inv ⟨(by repeat (first | exact SubS_nil | refine SubS_cons rfl (by first | rfl | (simp; done) | assumption) ?_)), (by repeat (first | exact SubH_nil | refine SubH_cons rfl (by first | rfl | (simp; done) | assumption) ?_))⟩ hi)) ?_
      rintro ⟨ys, k⟩ hk
      have hib := hbs.2.2.1
      refine j_seq (j_seq ?_)
      refine j_region ?_
      refine jg_adr _ rfl _ rfl rfl (op_move (.base rfl)) ?_
      refine jg_adr _ rfl _ rfl rfl (op_move (.base rfl)) ?_
      refine jg_adr _ rfl _ rfl rfl (op_sub (.base rfl) (.base rfl) (w64 (by omega))) ?_
      refine jg_adr _ rfl _ rfl rfl (op_lss (.base rfl) (.base rfl)) ?_
      refine jg_nil ?_
      refine jn_keep [0, 10, 13, 58] [100] (.cons rfl (.cons rfl (.cons rfl (.cons rfl .nil)))) (.cons rfl .nil) ?_
      refine jn_seq ?_
      refine j_cond rfl (fun h9 => ?_) (fun h9 => ?_)
      · have h9 : k + 1 < i := by simp at h9; omega
        have hib : i ≤ b := hbs.2.2.1
        have hyl := mvr_len hk.1 (by omega)
        refine j_skip (jn_seq (j_seq (j_block ?_)))
        refine j_drawE mo (by kernel_rfl) (
          AE.cons _ _ _ rfl (gh_move rfl (.base rfl)) (
          AE.cons _ _ _ rfl (gh_ga [] (ga_adr rfl rfl rfl (op_move (.base rfl))) (by kernel_rfl)) (
          AE.cons _ _ _ rfl (gh_move rfl (.base rfl)) (
          AE.cons _ _ _ rfl (gh_ga [] (ga_adr rfl rfl rfl (op_move (.base rfl))) (by kernel_rfl)) (
          AE.cons _ _ _ rfl (gh_ga [] (ga_adr rfl rfl rfl (op_add (.base rfl) (.base rfl) (w64 (by omega)))) (by kernel_rfl)) (
          AE.cons _ _ _ rfl (gh_move rfl (.base rfl)) (
          AE.cons _ _ _ rfl (gh_ga [] (ga_adr rfl rfl rfl (op_move (.base rfl))) (by kernel_rfl)) (
          AE.cons _ _ _ rfl (gh_ga [] (ga_adr rfl rfl rfl (op_add (.base rfl) (.base rfl) (w64 (by omega)))) (by kernel_rfl)) (
          AE.cons _ _ _ rfl (gh_oindex rfl Try.underlying22 ty45 (.b1 rfl) (.base rfl) (show ((k : Int) + 1) = ((k + 1 : Nat) : Int) from rfl) (by first | omega | (simp; done) | (simp; omega))) (
          AE.cons _ _ _ rfl (gh_ga [100] (ga_adr rfl rfl rfl (op_oload ty45 (.base rfl) rfl (List.getElem?_eq_getElem (by first | omega | (simp; done) | (simp; omega))) (Lens.id _))) (by kernel_rfl)) (
          AE.cons _ _ _ rfl (gh_move rfl (.base rfl)) (
          AE.cons _ _ _ rfl (gh_ga [] (ga_adr rfl rfl rfl (op_move (.base rfl))) (by kernel_rfl)) (
          AE.cons _ _ _ rfl (gh_oindex rfl Try.underlying22 ty45 (.b1 rfl) (.base rfl) rfl (by first | omega | (simp; done) | (simp; omega))) (
          AE.cons _ _ _ rfl (gh_ga [100] (ga_adr rfl rfl rfl (op_oload ty45 (.base rfl) rfl (List.getElem?_eq_getElem (by first | omega | (simp; done) | (simp; omega))) (Lens.id _))) (by kernel_rfl)) (
          AE.cons _ _ _ rfl (gh_oindex rfl Try.underlying22 ty45 (.b1 rfl) (.base rfl) rfl (by first | omega | (simp; done) | (simp; omega))) (
          AE.cons _ _ _ rfl (gh_store ty45 (.base rfl) rfl (List.getElem?_eq_getElem (by first | omega | (simp; done) | (simp; omega))) (Lens.id _) (.tv (.base rfl))) (
          AE.cons _ _ _ rfl (gh_oindex rfl Try.underlying22 ty45 (.b1 rfl) (.base rfl) (show ((k : Int) + 1) = ((k + 1 : Nat) : Int) from rfl) (by first | omega | (simp; done) | (simp; omega))) (
          AE.cons _ _ _ rfl (gh_store ty45 (.base rfl) rfl (List.getElem?_eq_getElem (by first | omega | (simp; done) | (simp; omega))) (Lens.id _) (.tv (.base rfl))) (
          AE.nil))))))))))))))))))) (by kernel_rfl) ?_
        refine jn_keep [0, 10, 13] [100] (.cons rfl (.cons rfl (.cons rfl .nil))) (.cons rfl .nil) ?_
        refine jn_blk (jn_seq ?_)
        refine j_region ?_
        refine jg_adr _ rfl _ rfl rfl (op_move (.base rfl)) ?_
        refine jg_adr _ rfl _ rfl rfl (op_add (.base rfl) (.base rfl) (w64 (by omega))) ?_
        refine jg_adr _ rfl _ rfl rfl (op_assign (.base rfl)) ?_
        refine jg_nil ?_
        refine jn_keep [0, 10, 13] [100] (.cons rfl (.cons rfl (.cons rfl .nil))) (.cons rfl .nil) ?_
        exact jn_loop (fun a w hi => ⟨(_, k + 1), (by first | omega | (simp; omega)), (⟨mvr_step hk.1 (by omega) (by omega) (by omega), by omega⟩), Sub.inv ⟨(by repeat (first | exact SubS_nil | refine SubS_cons rfl (by first | rfl | (simp; done) | assumption) ?_)), (by repeat (first | exact SubH_nil | refine SubH_cons rfl (by first | rfl | (simp; done) | assumption) ?_))⟩ hi⟩)
      · have h9 : k + 1 = i := by have := hk.2; simp at h9; omega
        refine j_exit (je_seq (je_loop (je_blk (jn_seq (j_ret (jr_seq ?_))))))
        exact jr_finT0 (s0 := 0) Try.results47 rfl rfl hpos (mvr_end hc.tr hc.to hk.1 hb sB hbs h9)
  · have h0 : m ≠ a + 1 := by simp at h0; omega
    refine j_skip (jn_seq (j_seq (j_seq ?_)))
    refine j_region ?_
    refine jg_adr _ rfl _ rfl rfl (op_move (.base rfl)) ?_
    refine jg_adr _ rfl _ rfl rfl (op_move (.base rfl)) ?_
    refine jg_adr _ rfl _ rfl rfl (op_sub (.base rfl) (.base rfl) (w64 (by omega))) ?_
    refine jg_adr _ rfl _ rfl rfl (op_eql (.base rfl) (.base rfl)) ?_
    refine jg_nil ?_
    refine jn_keep [0, 1, 2, 3, 4, 80] [100] (.cons rfl (.cons rfl (.cons rfl (.cons rfl (.cons rfl (.cons rfl .nil)))))) (.cons rfl .nil) ?_
    refine jn_seq ?_
    refine j_cond rfl (fun h12 => ?_) (fun h12 => ?_)
    · have h12 : b = m + 1 := by simp at h12; omega
      subst h12
      refine j_seq ?_
      refine j_region ?_
      refine jg_adr _ rfl _ rfl rfl (op_move (.base rfl)) ?_
      refine jg_adr _ rfl _ rfl rfl (op_assign (.base rfl)) ?_
      refine jg_nil ?_
      refine jn_keep [0, 2, 4, 14] [100] (.cons rfl (.cons rfl (.cons rfl (.cons rfl .nil)))) (.cons rfl .nil) ?_
      refine jn_seq (j_seq ?_)
      refine j_region ?_
      refine jg_adr _ rfl _ rfl rfl (op_move (.base rfl)) ?_
      refine jg_adr _ rfl _ rfl rfl (op_assign (.base rfl)) ?_
      refine jg_nil ?_
      refine jn_keep [0, 2, 4, 14, 15] [100] (.cons rfl (.cons rfl (.cons rfl (.cons rfl (.cons rfl .nil))))) (.cons rfl .nil) ?_
      refine jn_seq (j_seq (j_block ?_))
      refine j_loopp (ι := (Nat × Nat)) (fun (i, j) => ⟨[(0, .both (.own 100 rFact.n 0 xs.length) (.slice (some ⟨b0, o0, none⟩) xs.length cap0)), (2, .raw (.int .i64 ((m : Nat) : Int))), (4, .tv (rFun2 Try.prog rFact rFact (rInt .i64) (fun _ _ => True)) f), (14, .raw (.int .i64 ((i : Nat) : Int))), (15, .raw (.int .i64 ((j : Nat) : Int)))], [(100, ⟨rFact, xs⟩)]⟩) (fun (i, j) => BS (fun h => leF f (xs.getD (h) (0, (0, (0, ((0, (0, 0)), ((0, 0), 0)))))) (xs.getD (m) (0, (0, (0, ((0, (0, 0)), ((0, 0), 0))))))) a m i j) (fun (i, j) => j - i) (a, m) (bs_start (by omega)) (fun a w hi => (Sub.inv ⟨(by repeat (first | exact SubS_nil | refine SubS_cons rfl (by first | rfl | (simp; done) | assumption) ?_)), (by repeat (first | exact SubH_nil | refine SubH_cons rfl (by first | rfl | (simp; done) | assumption) ?_))⟩ hi)) ?_
      rintro ⟨i, j⟩ hbs
      refine j_seq (j_seq ?_)
      refine j_region ?_
      refine jg_adr _ rfl _ rfl rfl (op_move (.base rfl)) ?_
      refine jg_adr _ rfl _ rfl rfl (op_move (.base rfl)) ?_
      refine jg_adr _ rfl _ rfl rfl (op_lss (.base rfl) (.base rfl)) ?_
      refine jg_nil ?_
      refine jn_keep [0, 2, 4, 14, 15, 85] [100] (.cons rfl (.cons rfl (.cons rfl (.cons rfl (.cons rfl (.cons rfl .nil)))))) (.cons rfl .nil) ?_
      refine jn_seq ?_
      refine j_cond rfl (fun h15 => ?_) (fun h15 => ?_)
      · have h15 : i < j := by simp at h15; omega
        obtain ⟨_, _, _, _, _⟩ := id hbs
        refine j_skip (jn_seq (j_block (j_seq ?_)))
        refine j_region ?_
        refine jg_adr _ rfl _ rfl rfl (op_move (.base rfl)) ?_
        refine jg_adr _ rfl _ rfl rfl (op_move (.base rfl)) ?_
        refine jg_adr _ rfl _ rfl rfl (op_add (.base rfl) (.base rfl) (w64 (by omega))) ?_
        refine jg_adr _ rfl _ rfl rfl (op_conv ⟨_, Try.underlying3⟩ Try.underlying72 (.base rfl) (wu64 (by omega))) ?_
        refine jg_adr _ rfl _ rfl rfl (op_shr (.base rfl) (.base rfl) (by omega) half_eq) ?_
        refine jg_adr _ rfl _ rfl rfl (op_conv ⟨_, Try.underlying72⟩ Try.underlying3 (.base rfl) (w64 (by omega))) ?_
        refine jg_adr _ rfl _ rfl rfl (op_assign (.base rfl)) ?_
        refine jg_nil ?_
        refine jn_keep [0, 2, 4, 14, 15, 16] [100] (.cons rfl (.cons rfl (.cons rfl (.cons rfl (.cons rfl (.cons rfl .nil)))))) (.cons rfl .nil) ?_
        refine jn_seq (j_seq ?_)
        refine j_draw mo (by kernel_rfl) (
          AS.cons _ _ rfl (ga_adr rfl rfl rfl (op_move (.base rfl))) (
            AS.cons _ _ rfl (ga_adr rfl rfl rfl (op_move (.base rfl))) (
            AS.cons _ _ rfl (ga_adr rfl rfl rfl (op_move (.base rfl))) (
            AS.cons _ _ rfl (ga_adr rfl rfl rfl (op_oindex Try.underlying22 ty45 (.b1 rfl) (.base rfl) rfl (by first | omega | (simp; done) | (simp; omega)))) (
            AS.cons _ _ rfl (ga_adr rfl rfl rfl (op_oload ty45 (.base rfl) rfl (getD_some (z := ((0, (0, (0, ((0, (0, 0)), ((0, 0), 0))))) : TFact)) (by omega)) (Lens.id _))) (
            AS.cons _ _ rfl (ga_adr rfl rfl rfl (op_move (.base rfl))) (
            AS.cons _ _ rfl (ga_adr rfl rfl rfl (op_move (.base rfl))) (
            AS.cons _ _ rfl (ga_adr rfl rfl rfl (op_oindex Try.underlying22 ty45 (.b1 rfl) (.base rfl) rfl (by first | omega | (simp; done) | (simp; omega)))) (
            AS.cons _ _ rfl (ga_adr rfl rfl rfl (op_oload ty45 (.base rfl) rfl (getD_some (z := ((0, (0, (0, ((0, (0, 0)), ((0, 0), 0))))) : TFact)) (by omega)) (Lens.id _))) (
            AS.cons _ _ rfl (ga_adr rfl rfl rfl (op_callf2 (.base rfl) (.tv (.base rfl)) (.tv (.base rfl)) trivial)) (
            AS.cons _ _ rfl (ga_adr rfl rfl rfl (op_lss (.base rfl) (.base rfl))) (
            AS.cons _ _ rfl (ga_adr rfl rfl rfl (op_not (.base rfl))) (
            AS.nil))))))))))))) ?_
        refine jn_keep [0, 2, 4, 14, 15, 16, 103] [100] (.cons rfl (.cons rfl (.cons rfl (.cons rfl (.cons rfl (.cons rfl (.cons rfl .nil))))))) (.cons rfl .nil) ?_
        refine jn_seq ?_
        refine j_cond rfl (fun h17 => ?_) (fun h17 => ?_)
        · have h17 : leF f (xs.getD (((i + j) / 2)) (0, (0, (0, ((0, (0, 0)), ((0, 0), 0)))))) (xs.getD (m) (0, (0, (0, ((0, (0, 0)), ((0, 0), 0)))))) = true := by simpa [leF] using h17
          refine j_region ?_
          refine jg_adr _ rfl _ rfl rfl (op_move (.base rfl)) ?_
          refine jg_adr _ rfl _ rfl rfl (op_add (.base rfl) (.base rfl) (w64 (by omega))) ?_
          refine jg_adr _ rfl _ rfl rfl (op_assign (.base rfl)) ?_
          refine jg_nil ?_
          refine jn_keep [0, 2, 4, 14, 15] [100] (.cons rfl (.cons rfl (.cons rfl (.cons rfl (.cons rfl .nil))))) (.cons rfl .nil) ?_
          refine jn_blk ?_
          first | (have _hh : (leF f (xs.getD (((i + j) / 2)) (0, (0, (0, ((0, (0, 0)), ((0, 0), 0)))))) (xs.getD (m) (0, (0, (0, ((0, (0, 0)), ((0, 0), 0))))))) = true := h17; exact jn_loop (fun a w hi => ⟨(((i + j) / 2) + 1, j), (by first | omega | (simp; omega)), (bs_t hbs h15 _hh), Sub.inv ⟨(by repeat (first | exact SubS_nil | refine SubS_cons rfl (by first | rfl | (simp; done) | assumption) ?_)), (by repeat (first | exact SubH_nil | refine SubH_cons rfl (by first | rfl | (simp; done) | assumption) ?_))⟩ hi⟩)) | (have _hh : (leF f (xs.getD (((i + j) / 2)) (0, (0, (0, ((0, (0, 0)), ((0, 0), 0)))))) (xs.getD (m) (0, (0, (0, ((0, (0, 0)), ((0, 0), 0))))))) = false := h17; exact jn_loop (fun a w hi => ⟨(i, ((i + j) / 2)), (by first | omega | (simp; omega)), (bs_f hbs h15 _hh), Sub.inv ⟨(by repeat (first | exact SubS_nil | refine SubS_cons rfl (by first | rfl | (simp; done) | assumption) ?_)), (by repeat (first | exact SubH_nil | refine SubH_cons rfl (by first | rfl | (simp; done) | assumption) ?_))⟩ hi⟩))
        · have h17 : leF f (xs.getD (((i + j) / 2)) (0, (0, (0, ((0, (0, 0)), ((0, 0), 0)))))) (xs.getD (m) (0, (0, (0, ((0, (0, 0)), ((0, 0), 0)))))) = false := by (simp [leF] at h17 ⊢; omega)
          refine j_region ?_
          refine jg_adr _ rfl _ rfl rfl (op_move (.base rfl)) ?_
          refine jg_adr _ rfl _ rfl rfl (op_assign (.base rfl)) ?_
          refine jg_nil ?_
          refine jn_keep [0, 2, 4, 14, 15] [100] (.cons rfl (.cons rfl (.cons rfl (.cons rfl (.cons rfl .nil))))) (.cons rfl .nil) ?_
          refine jn_blk ?_
          first | (have _hh : (leF f (xs.getD (((i + j) / 2)) (0, (0, (0, ((0, (0, 0)), ((0, 0), 0)))))) (xs.getD (m) (0, (0, (0, ((0, (0, 0)), ((0, 0), 0))))))) = true := h17; exact jn_loop (fun a w hi => ⟨(((i + j) / 2) + 1, j), (by first | omega | (simp; omega)), (bs_t hbs h15 _hh), Sub.inv ⟨(by repeat (first | exact SubS_nil | refine SubS_cons rfl (by first | rfl | (simp; done) | assumption) ?_)), (by repeat (first | exact SubH_nil | refine SubH_cons rfl (by first | rfl | (simp; done) | assumption) ?_))⟩ hi⟩)) | (have _hh : (leF f (xs.getD (((i + j) / 2)) (0, (0, (0, ((0, (0, 0)), ((0, 0), 0)))))) (xs.getD (m) (0, (0, (0, ((0, (0, 0)), ((0, 0), 0))))))) = false := h17; exact jn_loop (fun a w hi => ⟨(i, ((i + j) / 2)), (by first | omega | (simp; omega)), (bs_f hbs h15 _hh), Sub.inv ⟨(by repeat (first | exact SubS_nil | refine SubS_cons rfl (by first | rfl | (simp; done) | assumption) ?_)), (by repeat (first | exact SubH_nil | refine SubH_cons rfl (by first | rfl | (simp; done) | assumption) ?_))⟩ hi⟩))
      · obtain rfl : i = j := by (have := hbs.2.1; simp at h15; omega)
        refine j_exit (je_seq (je_loop (je_blk (jn_seq (j_seq (j_seq ?_))))))
        refine j_region ?_
        refine jg_adr _ rfl _ rfl rfl (op_move (.base rfl)) ?_
        refine jg_adr _ rfl _ rfl rfl (op_assign (.base rfl)) ?_
        refine jg_nil ?_
        refine jn_keep [0, 14, 17] [100] (.cons rfl (.cons rfl (.cons rfl .nil))) (.cons rfl .nil) ?_
        refine jn_seq (j_block ?_)
        refine j_loopp (ι := (List TFact × Nat)) (fun (ys, k) => ⟨[(0, .both (.own 100 rFact.n 0 xs.length) (.slice (some ⟨b0, o0, none⟩) xs.length cap0)), (14, .raw (.int .i64 ((i : Nat) : Int))), (17, .raw (.int .i64 ((k : Nat) : Int)))], [(100, ⟨rFact, ys⟩)]⟩) (fun (ys, k) => MvL xs m k ys ∧ i ≤ k) (fun (ys, k) => k) (xs, m) (⟨mvl_start (by omega), hbs.2.2.1⟩) (fun a w hi => (Sub.inv ⟨(by repeat (first | exact SubS_nil | refine SubS_cons rfl (by first | rfl | (simp; done) | assumption) ?_)), (by repeat (first | exact SubH_nil | refine SubH_cons rfl (by first | rfl | (simp; done) | assumption) ?_))⟩ hi)) ?_
        rintro ⟨ys, k⟩ hk
        refine j_seq (j_seq ?_)
        refine j_region ?_
        refine jg_adr _ rfl _ rfl rfl (op_move (.base rfl)) ?_
        refine jg_adr _ rfl _ rfl rfl (op_move (.base rfl)) ?_
        refine jg_adr _ rfl _ rfl rfl (op_gtr (.base rfl) (.base rfl)) ?_
        refine jg_nil ?_
        refine jn_keep [0, 14, 17, 110] [100] (.cons rfl (.cons rfl (.cons rfl (.cons rfl .nil)))) (.cons rfl .nil) ?_
        refine jn_seq ?_
        refine j_cond rfl (fun h21 => ?_) (fun h21 => ?_)
        · have h21 : i < k := by simp at h21; omega
          obtain ⟨hyl, hkm⟩ := mvl_len hk.1 (by omega)
          refine j_skip (jn_seq (j_seq (j_block ?_)))
          refine j_drawE mo (by kernel_rfl) (
            AE.cons _ _ _ rfl (gh_move rfl (.base rfl)) (
            AE.cons _ _ _ rfl (gh_ga [] (ga_adr rfl rfl rfl (op_move (.base rfl))) (by kernel_rfl)) (
            AE.cons _ _ _ rfl (gh_move rfl (.base rfl)) (
            AE.cons _ _ _ rfl (gh_ga [] (ga_adr rfl rfl rfl (op_move (.base rfl))) (by kernel_rfl)) (
            AE.cons _ _ _ rfl (gh_ga [] (ga_adr rfl rfl rfl (op_sub (.base rfl) (.base rfl) (w64 (by omega)))) (by kernel_rfl)) (
            AE.cons _ _ _ rfl (gh_move rfl (.base rfl)) (
            AE.cons _ _ _ rfl (gh_ga [] (ga_adr rfl rfl rfl (op_move (.base rfl))) (by kernel_rfl)) (
            AE.cons _ _ _ rfl (gh_ga [] (ga_adr rfl rfl rfl (op_sub (.base rfl) (.base rfl) (w64 (by omega)))) (by kernel_rfl)) (
            AE.cons _ _ _ rfl (gh_oindex rfl Try.underlying22 ty45 (.b1 rfl) (.base rfl) (show ((k : Int) - 1) = ((k - 1 : Nat) : Int) from by omega) (by first | omega | (simp; done) | (simp; omega))) (
            AE.cons _ _ _ rfl (gh_ga [100] (ga_adr rfl rfl rfl (op_oload ty45 (.base rfl) rfl (List.getElem?_eq_getElem (by first | omega | (simp; done) | (simp; omega))) (Lens.id _))) (by kernel_rfl)) (
            AE.cons _ _ _ rfl (gh_move rfl (.base rfl)) (
            AE.cons _ _ _ rfl (gh_ga [] (ga_adr rfl rfl rfl (op_move (.base rfl))) (by kernel_rfl)) (
            AE.cons _ _ _ rfl (gh_oindex rfl Try.underlying22 ty45 (.b1 rfl) (.base rfl) rfl (by first | omega | (simp; done) | (simp; omega))) (
            AE.cons _ _ _ rfl (gh_ga [100] (ga_adr rfl rfl rfl (op_oload ty45 (.base rfl) rfl (List.getElem?_eq_getElem (by first | omega | (simp; done) | (simp; omega))) (Lens.id _))) (by kernel_rfl)) (
            AE.cons _ _ _ rfl (gh_oindex rfl Try.underlying22 ty45 (.b1 rfl) (.base rfl) rfl (by first | omega | (simp; done) | (simp; omega))) (
            AE.cons _ _ _ rfl (gh_store ty45 (.base rfl) rfl (List.getElem?_eq_getElem (by first | omega | (simp; done) | (simp; omega))) (Lens.id _) (.tv (.base rfl))) (
            AE.cons _ _ _ rfl (gh_oindex rfl Try.underlying22 ty45 (.b1 rfl) (.base rfl) (show ((k : Int) - 1) = ((k - 1 : Nat) : Int) from by omega) (by first | omega | (simp; done) | (simp; omega))) (
            AE.cons _ _ _ rfl (gh_store ty45 (.base rfl) rfl (List.getElem?_eq_getElem (by first | omega | (simp; done) | (simp; omega))) (Lens.id _) (.tv (.base rfl))) (
            AE.nil))))))))))))))))))) (by kernel_rfl) ?_
          refine jn_keep [0, 14, 17] [100] (.cons rfl (.cons rfl (.cons rfl .nil))) (.cons rfl .nil) ?_
          refine jn_blk (jn_seq ?_)
          have ek : ((k : Int) - 1) = ((k - 1 : Nat) : Int) := by omega
          refine j_region ?_
          refine jg_adr _ rfl _ rfl rfl (op_move (.base rfl)) ?_
          refine jg_adr _ rfl _ rfl rfl (op_sub (.base rfl) (.base rfl) (w64 (by omega))) ?_
          refine jg_adr _ rfl _ rfl rfl (op_assign (.base rfl)) ?_
          refine jg_nil ?_
          rw [ek]
          refine jn_keep [0, 14, 17] [100] (.cons rfl (.cons rfl (.cons rfl .nil))) (.cons rfl .nil) ?_
          exact jn_loop (fun a w hi => ⟨(_, k - 1), (by first | omega | (simp; omega)), (⟨mvl_step hk.1 (by omega) (by omega) (by omega) (by omega), by omega⟩), Sub.inv ⟨(by repeat (first | exact SubS_nil | refine SubS_cons rfl (by first | rfl | (simp; done) | assumption) ?_)), (by repeat (first | exact SubH_nil | refine SubH_cons rfl (by first | rfl | (simp; done) | assumption) ?_))⟩ hi⟩)
        · obtain rfl : k = i := by (have := hk.2; simp at h21; omega)
          refine j_exit (je_seq (je_loop (je_blk (jn_seq (j_ret (jr_seq ?_))))))
          exact jr_finT0 (s0 := 0) Try.results47 rfl rfl hpos (mvl_end hc.tr hc.to hk.1 (by omega) sA hbs)
    · have h12 : b ≠ m + 1 := by simp at h12; omega
      refine j_skip (jn_seq (j_seq ?_))
      refine j_region ?_
      refine jg_adr _ rfl _ rfl rfl (op_move (.base rfl)) ?_
      refine jg_adr _ rfl _ rfl rfl (op_move (.base rfl)) ?_
      refine jg_adr _ rfl _ rfl rfl (op_add (.base rfl) (.base rfl) (w64 (by omega))) ?_
      refine jg_adr _ rfl _ rfl rfl (op_conv ⟨_, Try.underlying3⟩ Try.underlying72 (.base rfl) (wu64 (by omega))) ?_
      refine jg_adr _ rfl _ rfl rfl (op_shr (.base rfl) (.base rfl) (by omega) half_eq) ?_
      refine jg_adr _ rfl _ rfl rfl (op_conv ⟨_, Try.underlying72⟩ Try.underlying3 (.base rfl) (w64 (by omega))) ?_
      refine jg_adr _ rfl _ rfl rfl (op_assign (.base rfl)) ?_
      refine jg_nil ?_
      obtain ⟨q, hq⟩ : ∃ q, q = (a + b) / 2 := ⟨_, rfl⟩
      rw [← hq]
      refine jn_keep [0, 1, 2, 3, 4, 18] [100] (.cons rfl (.cons rfl (.cons rfl (.cons rfl (.cons rfl (.cons rfl .nil)))))) (.cons rfl .nil) ?_
      refine jn_seq (j_seq ?_)
      refine j_region ?_
      refine jg_adr _ rfl _ rfl rfl (op_move (.base rfl)) ?_
      refine jg_adr _ rfl _ rfl rfl (op_move (.base rfl)) ?_
      refine jg_adr _ rfl _ rfl rfl (op_add (.base rfl) (.base rfl) (w64 (by omega))) ?_
      refine jg_adr _ rfl _ rfl rfl (op_assign (.base rfl)) ?_
      refine jg_nil ?_
      rw [show ((q : Int) + (m : Int)) = ((q + m : Nat) : Int) from by omega]
      refine jn_keep [0, 1, 2, 3, 4, 18, 19] [100] (.cons rfl (.cons rfl (.cons rfl (.cons rfl (.cons rfl (.cons rfl (.cons rfl .nil))))))) (.cons rfl .nil) ?_
      refine jn_seq (j_seq ?_)
      refine j_region ?_
      refine jg_adr _ rfl _ rfl rfl (op_assign (.base rfl)) ?_
      refine jg_adr _ rfl _ rfl rfl (op_assign (.base rfl)) ?_
      refine jg_nil ?_
      refine jn_keep [0, 1, 2, 3, 4, 18, 19] [100] (.cons rfl (.cons rfl (.cons rfl (.cons rfl (.cons rfl (.cons rfl (.cons rfl .nil))))))) (.cons rfl .nil) ?_
      refine jn_seq (j_seq (j_seq ?_))
      refine j_region ?_
      refine jg_adr _ rfl _ rfl rfl (op_move (.base rfl)) ?_
      refine jg_adr _ rfl _ rfl rfl (op_move (.base rfl)) ?_
      refine jg_adr _ rfl _ rfl rfl (op_gtr (.base rfl) (.base rfl)) ?_
      refine jg_nil ?_
      refine jn_keep [0, 1, 2, 3, 4, 18, 19, 140] [100] (.cons rfl (.cons rfl (.cons rfl (.cons rfl (.cons rfl (.cons rfl (.cons rfl (.cons rfl .nil)))))))) (.cons rfl .nil) ?_
      refine jn_seq ?_
      refine j_cond rfl (fun h27 => ?_) (fun h27 => ?_)
      · have h27 : q < m := by simp at h27; omega
        refine j_seq ?_
        refine j_region ?_
        refine jg_adr _ rfl _ rfl rfl (op_move (.base rfl)) ?_
        refine jg_adr _ rfl _ rfl rfl (op_move (.base rfl)) ?_
        refine jg_adr _ rfl _ rfl rfl (op_sub (.base rfl) (.base rfl) (w64 (by omega))) ?_
        refine jg_adr _ rfl _ rfl rfl (op_assign (.base rfl)) ?_
        refine jg_nil ?_
        rw [show (((q + m : Nat) : Int) - (b : Int)) = ((q + m - b : Nat) : Int) from by omega]
        refine jn_keep [0, 1, 2, 3, 4, 18, 19, 20] [100] (.cons rfl (.cons rfl (.cons rfl (.cons rfl (.cons rfl (.cons rfl (.cons rfl (.cons rfl .nil)))))))) (.cons rfl .nil) ?_
        refine jn_seq ?_
        refine j_region ?_
        refine jg_adr _ rfl _ rfl rfl (op_move (.base rfl)) ?_
        refine jg_adr _ rfl _ rfl rfl (op_assign (.base rfl)) ?_
        refine jg_nil ?_
        refine jn_keep [0, 1, 2, 3, 4, 18, 19, 20, 21] [100] (.cons rfl (.cons rfl (.cons rfl (.cons rfl (.cons rfl (.cons rfl (.cons rfl (.cons rfl (.cons rfl .nil))))))))) (.cons rfl .nil) ?_
        refine jn_seq (j_seq ?_)
        refine j_region ?_
        refine jg_adr _ rfl _ rfl rfl (op_move (.base rfl)) ?_
        refine jg_adr _ rfl _ rfl rfl (op_sub (.base rfl) (.base rfl) (w64 (by omega))) ?_
        refine jg_adr _ rfl _ rfl rfl (op_assign (.base rfl)) ?_
        refine jg_nil ?_
        rw [show (((q + m : Nat) : Int) - 1) = ((q + m - 1 : Nat) : Int) from by omega]
        refine jn_keep [0, 1, 2, 3, 4, 18, 19, 20, 21, 22] [100] (.cons rfl (.cons rfl (.cons rfl (.cons rfl (.cons rfl (.cons rfl (.cons rfl (.cons rfl (.cons rfl (.cons rfl .nil)))))))))) (.cons rfl .nil) ?_
        refine jn_seq (j_seq (j_block ?_))
        first | (have _hh : q < m := h27; refine j_loopp (ι := (Nat × Nat)) (fun (s, r) => ⟨[(0, .both (.own 100 rFact.n 0 xs.length) (.slice (some ⟨b0, o0, none⟩) xs.length cap0)), (1, .raw (.int .i64 ((a : Nat) : Int))), (2, .raw (.int .i64 ((m : Nat) : Int))), (3, .raw (.int .i64 ((b : Nat) : Int))), (4, .tv (rFun2 Try.prog rFact rFact (rInt .i64) (fun _ _ => True)) f), (18, .raw (.int .i64 ((q : Nat) : Int))), (19, .raw (.int .i64 (((q + m) : Nat) : Int))), (20, .raw (.int .i64 ((s : Nat) : Int))), (21, .raw (.int .i64 ((r : Nat) : Int))), (22, .raw (.int .i64 (((q + m - 1) : Nat) : Int)))], [(100, ⟨rFact, xs⟩)]⟩) (fun (s, r) => BS (fun c => leF f (xs.getD (c) (0, (0, (0, ((0, (0, 0)), ((0, 0), 0)))))) (xs.getD (q + m - 1 - c) (0, (0, (0, ((0, (0, 0)), ((0, 0), 0))))))) (q + m - b) (q) s r) (fun (s, r) => r - s) (q + m - b, q) (bs_start (by omega)) (fun a w hi => (Sub.inv ⟨(by repeat (first | exact SubS_nil | refine SubS_cons rfl (by first | rfl | (simp; done) | assumption) ?_)), (by repeat (first | exact SubH_nil | refine SubH_cons rfl (by first | rfl | (simp; done) | assumption) ?_))⟩ hi)) ?_) | (have _hh : m ≤ q := h27; refine j_loopp (ι := (Nat × Nat)) (fun (s, r) => ⟨[(0, .both (.own 100 rFact.n 0 xs.length) (.slice (some ⟨b0, o0, none⟩) xs.length cap0)), (1, .raw (.int .i64 ((a : Nat) : Int))), (2, .raw (.int .i64 ((m : Nat) : Int))), (3, .raw (.int .i64 ((b : Nat) : Int))), (4, .tv (rFun2 Try.prog rFact rFact (rInt .i64) (fun _ _ => True)) f), (18, .raw (.int .i64 ((q : Nat) : Int))), (19, .raw (.int .i64 (((q + m) : Nat) : Int))), (20, .raw (.int .i64 ((s : Nat) : Int))), (21, .raw (.int .i64 ((r : Nat) : Int))), (22, .raw (.int .i64 (((q + m - 1) : Nat) : Int)))], [(100, ⟨rFact, xs⟩)]⟩) (fun (s, r) => BS (fun c => leF f (xs.getD (c) (0, (0, (0, ((0, (0, 0)), ((0, 0), 0)))))) (xs.getD (q + m - 1 - c) (0, (0, (0, ((0, (0, 0)), ((0, 0), 0))))))) (a) (m) s r) (fun (s, r) => r - s) (a, m) (bs_start (by omega)) (fun a w hi => (Sub.inv ⟨(by repeat (first | exact SubS_nil | refine SubS_cons rfl (by first | rfl | (simp; done) | assumption) ?_)), (by repeat (first | exact SubH_nil | refine SubH_cons rfl (by first | rfl | (simp; done) | assumption) ?_))⟩ hi)) ?_)
        rintro ⟨s, r⟩ hbs
        refine j_seq (j_seq ?_)
        refine j_region ?_
        refine jg_adr _ rfl _ rfl rfl (op_move (.base rfl)) ?_
        refine jg_adr _ rfl _ rfl rfl (op_move (.base rfl)) ?_
        refine jg_adr _ rfl _ rfl rfl (op_lss (.base rfl) (.base rfl)) ?_
        refine jg_nil ?_
        refine jn_keep [0, 1, 2, 3, 4, 18, 19, 20, 21, 22, 151] [100] (.cons rfl (.cons rfl (.cons rfl (.cons rfl (.cons rfl (.cons rfl (.cons rfl (.cons rfl (.cons rfl (.cons rfl (.cons rfl .nil))))))))))) (.cons rfl .nil) ?_
        refine jn_seq ?_
        refine j_cond rfl (fun h33 => ?_) (fun h33 => ?_)
        · have h33 : s < r := by simp at h33; omega
          obtain ⟨_, _, _, _, _⟩ := id hbs
          refine j_skip (jn_seq (j_block (j_seq ?_)))
          refine j_region ?_
          refine jg_adr _ rfl _ rfl rfl (op_move (.base rfl)) ?_
          refine jg_adr _ rfl _ rfl rfl (op_move (.base rfl)) ?_
          refine jg_adr _ rfl _ rfl rfl (op_add (.base rfl) (.base rfl) (w64 (by omega))) ?_
          refine jg_adr _ rfl _ rfl rfl (op_conv ⟨_, Try.underlying3⟩ Try.underlying72 (.base rfl) (wu64 (by omega))) ?_
          refine jg_adr _ rfl _ rfl rfl (op_shr (.base rfl) (.base rfl) (by omega) half_eq) ?_
          refine jg_adr _ rfl _ rfl rfl (op_conv ⟨_, Try.underlying72⟩ Try.underlying3 (.base rfl) (w64 (by omega))) ?_
          refine jg_adr _ rfl _ rfl rfl (op_assign (.base rfl)) ?_
          refine jg_nil ?_
          refine jn_keep [0, 1, 2, 3, 4, 18, 19, 20, 21, 22, 23] [100] (.cons rfl (.cons rfl (.cons rfl (.cons rfl (.cons rfl (.cons rfl (.cons rfl (.cons rfl (.cons rfl (.cons rfl (.cons rfl .nil))))))))))) (.cons rfl .nil) ?_
          refine jn_seq (j_seq ?_)
          refine j_draw mo (by kernel_rfl) (
            AS.cons _ _ rfl (ga_adr rfl rfl rfl (op_move (.base rfl))) (
              AS.cons _ _ rfl (ga_adr rfl rfl rfl (op_move (.base rfl))) (
              AS.cons _ _ rfl (ga_adr rfl rfl rfl (op_move (.base rfl))) (
              AS.cons _ _ rfl (ga_adr rfl rfl rfl (op_move (.base rfl))) (
              AS.cons _ _ rfl (ga_adr rfl rfl rfl (op_sub (.base rfl) (.base rfl) (w64 (by omega)))) (
              AS.cons _ _ rfl (ga_adr rfl rfl rfl (op_oindex Try.underlying22 ty45 (.b1 rfl) (.base rfl) (show (((q + m - 1 : Nat) : Int) - ((((s + r) / 2) : Nat) : Int)) = ((q + m - 1 - ((s + r) / 2) : Nat) : Int) from by omega) (by first | omega | (simp; done) | (simp; omega)))) (
              AS.cons _ _ rfl (ga_adr rfl rfl rfl (op_oload ty45 (.base rfl) rfl (getD_some (z := ((0, (0, (0, ((0, (0, 0)), ((0, 0), 0))))) : TFact)) (by omega)) (Lens.id _))) (
              AS.cons _ _ rfl (ga_adr rfl rfl rfl (op_move (.base rfl))) (
              AS.cons _ _ rfl (ga_adr rfl rfl rfl (op_move (.base rfl))) (
              AS.cons _ _ rfl (ga_adr rfl rfl rfl (op_oindex Try.underlying22 ty45 (.b1 rfl) (.base rfl) rfl (by first | omega | (simp; done) | (simp; omega)))) (
              AS.cons _ _ rfl (ga_adr rfl rfl rfl (op_oload ty45 (.base rfl) rfl (getD_some (z := ((0, (0, (0, ((0, (0, 0)), ((0, 0), 0))))) : TFact)) (by omega)) (Lens.id _))) (
              AS.cons _ _ rfl (ga_adr rfl rfl rfl (op_callf2 (.base rfl) (.tv (.base rfl)) (.tv (.base rfl)) trivial)) (
              AS.cons _ _ rfl (ga_adr rfl rfl rfl (op_lss (.base rfl) (.base rfl))) (
              AS.cons _ _ rfl (ga_adr rfl rfl rfl (op_not (.base rfl))) (
              AS.nil))))))))))))))) ?_
          refine jn_keep [0, 1, 2, 3, 4, 18, 19, 20, 21, 22, 23, 171] [100] (.cons rfl (.cons rfl (.cons rfl (.cons rfl (.cons rfl (.cons rfl (.cons rfl (.cons rfl (.cons rfl (.cons rfl (.cons rfl (.cons rfl .nil)))))))))))) (.cons rfl .nil) ?_
          refine jn_seq ?_
          refine j_cond rfl (fun h35 => ?_) (fun h35 => ?_)
          · have h35 : leF f (xs.getD (((s + r) / 2)) (0, (0, (0, ((0, (0, 0)), ((0, 0), 0)))))) (xs.getD (q + m - 1 - ((s + r) / 2)) (0, (0, (0, ((0, (0, 0)), ((0, 0), 0)))))) = true := by simpa [leF] using h35
            refine j_region ?_
            refine jg_adr _ rfl _ rfl rfl (op_move (.base rfl)) ?_
            refine jg_adr _ rfl _ rfl rfl (op_add (.base rfl) (.base rfl) (w64 (by omega))) ?_
            refine jg_adr _ rfl _ rfl rfl (op_assign (.base rfl)) ?_
            refine jg_nil ?_
            refine jn_keep [0, 1, 2, 3, 4, 18, 19, 20, 21, 22] [100] (.cons rfl (.cons rfl (.cons rfl (.cons rfl (.cons rfl (.cons rfl (.cons rfl (.cons rfl (.cons rfl (.cons rfl .nil)))))))))) (.cons rfl .nil) ?_
            refine jn_blk ?_
            first | (have _hh : (leF f (xs.getD (((s + r) / 2)) (0, (0, (0, ((0, (0, 0)), ((0, 0), 0)))))) (xs.getD (q + m - 1 - ((s + r) / 2)) (0, (0, (0, ((0, (0, 0)), ((0, 0), 0))))))) = true := h35; exact jn_loop (fun a w hi => ⟨(((s + r) / 2) + 1, r), (by first | omega | (simp; omega)), (bs_t hbs h33 _hh), Sub.inv ⟨(by repeat (first | exact SubS_nil | refine SubS_cons rfl (by first | rfl | (simp; done) | assumption) ?_)), (by repeat (first | exact SubH_nil | refine SubH_cons rfl (by first | rfl | (simp; done) | assumption) ?_))⟩ hi⟩)) | (have _hh : (leF f (xs.getD (((s + r) / 2)) (0, (0, (0, ((0, (0, 0)), ((0, 0), 0)))))) (xs.getD (q + m - 1 - ((s + r) / 2)) (0, (0, (0, ((0, (0, 0)), ((0, 0), 0))))))) = false := h35; exact jn_loop (fun a w hi => ⟨(s, ((s + r) / 2)), (by first | omega | (simp; omega)), (bs_f hbs h33 _hh), Sub.inv ⟨(by repeat (first | exact SubS_nil | refine SubS_cons rfl (by first | rfl | (simp; done) | assumption) ?_)), (by repeat (first | exact SubH_nil | refine SubH_cons rfl (by first | rfl | (simp; done) | assumption) ?_))⟩ hi⟩))
          · have h35 : leF f (xs.getD (((s + r) / 2)) (0, (0, (0, ((0, (0, 0)), ((0, 0), 0)))))) (xs.getD (q + m - 1 - ((s + r) / 2)) (0, (0, (0, ((0, (0, 0)), ((0, 0), 0)))))) = false := by (simp [leF] at h35 ⊢; omega)
            refine j_region ?_
            refine jg_adr _ rfl _ rfl rfl (op_move (.base rfl)) ?_
            refine jg_adr _ rfl _ rfl rfl (op_assign (.base rfl)) ?_
            refine jg_nil ?_
            refine jn_keep [0, 1, 2, 3, 4, 18, 19, 20, 21, 22] [100] (.cons rfl (.cons rfl (.cons rfl (.cons rfl (.cons rfl (.cons rfl (.cons rfl (.cons rfl (.cons rfl (.cons rfl .nil)))))))))) (.cons rfl .nil) ?_
            refine jn_blk ?_
            first | (have _hh : (leF f (xs.getD (((s + r) / 2)) (0, (0, (0, ((0, (0, 0)), ((0, 0), 0)))))) (xs.getD (q + m - 1 - ((s + r) / 2)) (0, (0, (0, ((0, (0, 0)), ((0, 0), 0))))))) = true := h35; exact jn_loop (fun a w hi => ⟨(((s + r) / 2) + 1, r), (by first | omega | (simp; omega)), (bs_t hbs h33 _hh), Sub.inv ⟨(by repeat (first | exact SubS_nil | refine SubS_cons rfl (by first | rfl | (simp; done) | assumption) ?_)), (by repeat (first | exact SubH_nil | refine SubH_cons rfl (by first | rfl | (simp; done) | assumption) ?_))⟩ hi⟩)) | (have _hh : (leF f (xs.getD (((s + r) / 2)) (0, (0, (0, ((0, (0, 0)), ((0, 0), 0)))))) (xs.getD (q + m - 1 - ((s + r) / 2)) (0, (0, (0, ((0, (0, 0)), ((0, 0), 0))))))) = false := h35; exact jn_loop (fun a w hi => ⟨(s, ((s + r) / 2)), (by first | omega | (simp; omega)), (bs_f hbs h33 _hh), Sub.inv ⟨(by repeat (first | exact SubS_nil | refine SubS_cons rfl (by first | rfl | (simp; done) | assumption) ?_)), (by repeat (first | exact SubH_nil | refine SubH_cons rfl (by first | rfl | (simp; done) | assumption) ?_))⟩ hi⟩))
        · obtain rfl : s = r := by (have := hbs.2.1; simp at h33; omega)
          obtain ⟨e, he⟩ : ∃ e, e = q + m - s := ⟨_, rfl⟩
          obtain ⟨k1, k2, k3, k4, k5, k6, k7⟩ := sym_found hc.tr hc.to hb sA sB ham hmb hq (by omega) hbs he
          refine j_exit (je_seq (je_loop (je_blk (jn_seq (j_seq ?_)))))
          refine j_region ?_
          refine jg_adr _ rfl _ rfl rfl (op_move (.base rfl)) ?_
          refine jg_adr _ rfl _ rfl rfl (op_move (.base rfl)) ?_
          refine jg_adr _ rfl _ rfl rfl (op_sub (.base rfl) (.base rfl) (w64 (by omega))) ?_
          refine jg_adr _ rfl _ rfl rfl (op_assign (.base rfl)) ?_
          refine jg_nil ?_
          rw [show (((q + m : Nat) : Int) - (s : Int)) = (e : Int) from by omega]
          refine jn_keep [0, 1, 2, 3, 4, 18, 20, 24] [100] (.cons rfl (.cons rfl (.cons rfl (.cons rfl (.cons rfl (.cons rfl (.cons rfl (.cons rfl .nil)))))))) (.cons rfl .nil) ?_
          refine jn_seq (j_seq (j_seq ?_))
          refine j_region ?_
          refine jg_adr _ rfl _ rfl rfl (op_move (.base rfl)) ?_
          refine jg_adr _ rfl _ rfl rfl (op_move (.base rfl)) ?_
          refine jg_adr _ rfl _ rfl rfl (op_lss (.base rfl) (.base rfl)) ?_
          refine jg_adr _ rfl _ rfl rfl (op_move (.base rfl)) ?_
          refine jg_gd _ _ _ _ _ _ rfl rfl rfl rfl rfl (fun hg => op_move (.base rfl)) ?_
          refine jg_gd _ _ _ _ _ _ rfl rfl rfl rfl rfl (fun hg => op_move (.base rfl)) ?_
          refine jg_gd _ _ _ _ _ _ rfl rfl rfl rfl rfl (fun hg => op_lss (.gd rfl hg) (.gd rfl hg)) ?_
          refine jg_adr _ rfl _ rfl rfl (op_pick_and (.base rfl) (.base rfl) rfl (by intro h; first | (rw [h]; rfl) | (rw [hg, h]; rfl) | (rw [h, hg]; rfl) | simp_all)) ?_
          refine jg_nil ?_
          refine jn_keep [0, 1, 2, 3, 4, 18, 20, 24, 185] [100] (.cons rfl (.cons rfl (.cons rfl (.cons rfl (.cons rfl (.cons rfl (.cons rfl (.cons rfl (.cons rfl .nil))))))))) (.cons rfl .nil) ?_
          refine jn_seq ?_
          refine j_cond rfl (fun h39 => ?_) (fun h39 => ?_)
          · have h39 : s < m ∧ m < e := by simpa using h39
            refine j_region ?_
            refine jg_adr _ rfl _ rfl rfl (op_move (.base rfl)) ?_
            refine jg_adr _ rfl _ rfl rfl (op_move (.base rfl)) ?_
            refine jg_adr _ rfl _ rfl rfl (op_move (.base rfl)) ?_
            refine jg_adr _ rfl _ rfl rfl (op_move (.base rfl)) ?_
            refine jg_adr _ rfl _ rfl rfl (op_move (.base rfl)) ?_
            refine jg_callT [] [0, 1, 3, 4, 18, 20, 24] (rot_c f xs s m e rfl rfl rfl h39.1 h39.2 (by omega)) (.base rfl) rfl rfl (by omega) (.cons (.base rfl) (.cons (.base rfl) (.cons (.base rfl) (.cons (.base rfl) .nil)))) rfl rfl rfl rfl (.both rfl (.free rfl rfl (.free rfl rfl (.free rfl rfl (.free rfl rfl (.free rfl rfl (.free rfl rfl .nil))))))) ?_
            intro y1 hy1
            have r1 : RotQ xs s m e y1 := hy1
            obtain ⟨p1, p2, p3, p4, p5, p6, p7⟩ := rotq_parts r1 k1 k2 k3 k4 hb k5
            refine jg_nil ?_
            refine jn_keep [0, 1, 3, 4, 18, 20, 24] [100] (.cons rfl (.cons rfl (.cons rfl (.cons rfl (.cons rfl (.cons rfl (.cons rfl .nil))))))) (.cons rfl .nil) ?_
            refine jn_seq (j_seq (j_seq ?_))
            refine j_region ?_
            refine jg_adr _ rfl _ rfl rfl (op_move (.base rfl)) ?_
            refine jg_adr _ rfl _ rfl rfl (op_move (.base rfl)) ?_
            refine jg_adr _ rfl _ rfl rfl (op_lss (.base rfl) (.base rfl)) ?_
            refine jg_adr _ rfl _ rfl rfl (op_move (.base rfl)) ?_
            refine jg_gd _ _ _ _ _ _ rfl rfl rfl rfl rfl (fun hg => op_move (.base rfl)) ?_
            refine jg_gd _ _ _ _ _ _ rfl rfl rfl rfl rfl (fun hg => op_move (.base rfl)) ?_
            refine jg_gd _ _ _ _ _ _ rfl rfl rfl rfl rfl (fun hg => op_lss (.gd rfl hg) (.gd rfl hg)) ?_
            refine jg_adr _ rfl _ rfl rfl (op_pick_and (.base rfl) (.base rfl) rfl (by intro h; first | (rw [h]; rfl) | (rw [hg, h]; rfl) | (rw [h, hg]; rfl) | simp_all)) ?_
            refine jg_nil ?_
            refine jn_keep [0, 1, 3, 4, 18, 20, 24, 199] [100] (.cons rfl (.cons rfl (.cons rfl (.cons rfl (.cons rfl (.cons rfl (.cons rfl (.cons rfl .nil)))))))) (.cons rfl .nil) ?_
            refine jn_seq ?_
            refine j_cond rfl (fun h41 => ?_) (fun h41 => ?_)
            · have h41 : a < s ∧ s < q := by simpa using h41
              refine j_region ?_
              refine jg_adr _ rfl _ rfl rfl (op_move (.base rfl)) ?_
              refine jg_adr _ rfl _ rfl rfl (op_move (.base rfl)) ?_
              refine jg_adr _ rfl _ rfl rfl (op_move (.base rfl)) ?_
              refine jg_adr _ rfl _ rfl rfl (op_move (.base rfl)) ?_
              refine jg_adr _ rfl _ rfl rfl (op_move (.base rfl)) ?_
              refine jg_callT [] [0, 3, 4, 18, 24] (ih _ _ _ _ a s q rfl rfl rfl (by rw [p7]; exact hsm) (by omega) h41.1 h41.2 (by rw [p7]; omega) (by rw [p2]; exact sorted_sub sA (Nat.le_refl _) k2) (by rw [p3]; exact sorted_sub sB (Nat.le_refl _) k4)) (.base rfl) rfl (by rw [p7]) (by omega) (.cons (.base rfl) (.cons (.base rfl) (.cons (.base rfl) (.cons (.base rfl) .nil)))) rfl rfl rfl rfl (.both rfl (.free rfl rfl (.free rfl rfl (.free rfl rfl (.free rfl rfl .nil))))) ?_
              intro y2 r2
              obtain ⟨q1, q2, q3, q4, q5⟩ := sym_parts (e := e) (b := b) r2 k1 (by omega) (by omega) k4 (by rw [p7]; exact hb)
              refine jg_nil ?_
              refine jn_keep [0, 3, 4, 18, 24] [100] (.cons rfl (.cons rfl (.cons rfl (.cons rfl (.cons rfl .nil))))) (.cons rfl .nil) ?_
              refine jn_seq (j_seq ?_)
              refine j_region ?_
              refine jg_adr _ rfl _ rfl rfl (op_move (.base rfl)) ?_
              refine jg_adr _ rfl _ rfl rfl (op_move (.base rfl)) ?_
              refine jg_adr _ rfl _ rfl rfl (op_lss (.base rfl) (.base rfl)) ?_
              refine jg_adr _ rfl _ rfl rfl (op_move (.base rfl)) ?_
              refine jg_gd _ _ _ _ _ _ rfl rfl rfl rfl rfl (fun hg => op_move (.base rfl)) ?_
              refine jg_gd _ _ _ _ _ _ rfl rfl rfl rfl rfl (fun hg => op_move (.base rfl)) ?_
              refine jg_gd _ _ _ _ _ _ rfl rfl rfl rfl rfl (fun hg => op_lss (.gd rfl hg) (.gd rfl hg)) ?_
              refine jg_adr _ rfl _ rfl rfl (op_pick_and (.base rfl) (.base rfl) rfl (by intro h; first | (rw [h]; rfl) | (rw [hg, h]; rfl) | (rw [h, hg]; rfl) | simp_all)) ?_
              refine jg_nil ?_
              refine jn_keep [0, 3, 4, 18, 24, 213] [100] (.cons rfl (.cons rfl (.cons rfl (.cons rfl (.cons rfl (.cons rfl .nil)))))) (.cons rfl .nil) ?_
              refine jn_seq ?_
              refine j_cond rfl (fun h43 => ?_) (fun h43 => ?_)
              · have h43 : q < e ∧ e < b := by simpa using h43
                refine j_region ?_
                refine jg_adr _ rfl _ rfl rfl (op_move (.base rfl)) ?_
                refine jg_adr _ rfl _ rfl rfl (op_move (.base rfl)) ?_
                refine jg_adr _ rfl _ rfl rfl (op_move (.base rfl)) ?_
                refine jg_adr _ rfl _ rfl rfl (op_move (.base rfl)) ?_
                refine jg_adr _ rfl _ rfl rfl (op_move (.base rfl)) ?_
                refine jg_callT [] [0] (ih _ _ _ _ q e b rfl rfl rfl (by rw [q5, p7]; exact hsm) (by omega) h43.1 h43.2 (by rw [q5, p7]; omega) (by rw [q2, p4]; exact sorted_sub sA k1 (Nat.le_refl _)) (by rw [q3, p5]; exact sorted_sub sB k3 (Nat.le_refl _))) (.base rfl) rfl (by rw [q5, p7]) (by omega) (.cons (.base rfl) (.cons (.base rfl) (.cons (.base rfl) (.cons (.base rfl) .nil)))) rfl rfl rfl rfl (.both rfl .nil) ?_
                intro y3 r3
                refine jg_nil ?_
                refine jn_keep [0] [100] (.cons rfl .nil) (.cons rfl .nil) ?_
                exact jn_finT0 (s0 := 0) Try.results47 rfl rfl hpos (sym_join k1 k2 k3 k4 hb k5 r1 r2 r3 k6 k7)
              · have h43 : q = e ∨ e = b := by (simp at h43; omega)
                refine j_skip ?_
                exact jn_finT0 (s0 := 0) Try.results47 rfl rfl hpos (sym_join k1 k2 k3 k4 hb k5 r1 r2 (sym_triv (by omega) k4 h43) k6 k7)
            · have h41 : a = s ∨ s = q := by (simp at h41; omega)
              have r2 := sym_triv_of (le := leF f) r1 (a := a) (m := s) (b := q) k1 (by omega) h41
              obtain ⟨q1, q2, q3, q4, q5⟩ := sym_parts (e := e) (b := b) r2 k1 (by omega) (by omega) k4 (by rw [p7]; exact hb)
              refine j_skip (jn_seq (j_seq ?_))
              refine j_region ?_
              refine jg_adr _ rfl _ rfl rfl (op_move (.base rfl)) ?_
              refine jg_adr _ rfl _ rfl rfl (op_move (.base rfl)) ?_
              refine jg_adr _ rfl _ rfl rfl (op_lss (.base rfl) (.base rfl)) ?_
              refine jg_adr _ rfl _ rfl rfl (op_move (.base rfl)) ?_
              refine jg_gd _ _ _ _ _ _ rfl rfl rfl rfl rfl (fun hg => op_move (.base rfl)) ?_
              refine jg_gd _ _ _ _ _ _ rfl rfl rfl rfl rfl (fun hg => op_move (.base rfl)) ?_
              refine jg_gd _ _ _ _ _ _ rfl rfl rfl rfl rfl (fun hg => op_lss (.gd rfl hg) (.gd rfl hg)) ?_
              refine jg_adr _ rfl _ rfl rfl (op_pick_and (.base rfl) (.base rfl) rfl (by intro h; first | (rw [h]; rfl) | (rw [hg, h]; rfl) | (rw [h, hg]; rfl) | simp_all)) ?_
              refine jg_nil ?_
              refine jn_keep [0, 3, 4, 18, 24, 213] [100] (.cons rfl (.cons rfl (.cons rfl (.cons rfl (.cons rfl (.cons rfl .nil)))))) (.cons rfl .nil) ?_
              refine jn_seq ?_
              refine j_cond rfl (fun h43 => ?_) (fun h43 => ?_)
              · have h43 : q < e ∧ e < b := by simpa using h43
                refine j_region ?_
                refine jg_adr _ rfl _ rfl rfl (op_move (.base rfl)) ?_
                refine jg_adr _ rfl _ rfl rfl (op_move (.base rfl)) ?_
                refine jg_adr _ rfl _ rfl rfl (op_move (.base rfl)) ?_
                refine jg_adr _ rfl _ rfl rfl (op_move (.base rfl)) ?_
                refine jg_adr _ rfl _ rfl rfl (op_move (.base rfl)) ?_
                refine jg_callT [] [0] (ih _ _ _ _ q e b rfl rfl rfl (by rw [q5, p7]; exact hsm) (by omega) h43.1 h43.2 (by rw [q5, p7]; omega) (by rw [q2, p4]; exact sorted_sub sA k1 (Nat.le_refl _)) (by rw [q3, p5]; exact sorted_sub sB k3 (Nat.le_refl _))) (.base rfl) rfl (by rw [q5, p7]) (by omega) (.cons (.base rfl) (.cons (.base rfl) (.cons (.base rfl) (.cons (.base rfl) .nil)))) rfl rfl rfl rfl (.both rfl .nil) ?_
                intro y3 r3
                refine jg_nil ?_
                refine jn_keep [0] [100] (.cons rfl .nil) (.cons rfl .nil) ?_
                exact jn_finT0 (s0 := 0) Try.results47 rfl rfl hpos (sym_join k1 k2 k3 k4 hb k5 r1 r2 r3 k6 k7)
              · have h43 : q = e ∨ e = b := by (simp at h43; omega)
                refine j_skip ?_
                exact jn_finT0 (s0 := 0) Try.results47 rfl rfl hpos (sym_join k1 k2 k3 k4 hb k5 r1 r2 (sym_triv (by omega) k4 h43) k6 k7)
          · have h39 : s = m ∨ m = e := by (simp at h39; omega)
            have r1 : RotQ xs s m e xs := rotq_triv k2 k3 h39
            obtain ⟨p1, p2, p3, p4, p5, p6, p7⟩ := rotq_parts r1 k1 k2 k3 k4 hb k5
            refine j_skip (jn_seq (j_seq (j_seq ?_)))
            refine j_region ?_
            refine jg_adr _ rfl _ rfl rfl (op_move (.base rfl)) ?_
            refine jg_adr _ rfl _ rfl rfl (op_move (.base rfl)) ?_
            refine jg_adr _ rfl _ rfl rfl (op_lss (.base rfl) (.base rfl)) ?_
            refine jg_adr _ rfl _ rfl rfl (op_move (.base rfl)) ?_
            refine jg_gd _ _ _ _ _ _ rfl rfl rfl rfl rfl (fun hg => op_move (.base rfl)) ?_
            refine jg_gd _ _ _ _ _ _ rfl rfl rfl rfl rfl (fun hg => op_move (.base rfl)) ?_
            refine jg_gd _ _ _ _ _ _ rfl rfl rfl rfl rfl (fun hg => op_lss (.gd rfl hg) (.gd rfl hg)) ?_
            refine jg_adr _ rfl _ rfl rfl (op_pick_and (.base rfl) (.base rfl) rfl (by intro h; first | (rw [h]; rfl) | (rw [hg, h]; rfl) | (rw [h, hg]; rfl) | simp_all)) ?_
            refine jg_nil ?_
            refine jn_keep [0, 1, 3, 4, 18, 20, 24, 199] [100] (.cons rfl (.cons rfl (.cons rfl (.cons rfl (.cons rfl (.cons rfl (.cons rfl (.cons rfl .nil)))))))) (.cons rfl .nil) ?_
            refine jn_seq ?_
            refine j_cond rfl (fun h41 => ?_) (fun h41 => ?_)
            · have h41 : a < s ∧ s < q := by simpa using h41
              refine j_region ?_
              refine jg_adr _ rfl _ rfl rfl (op_move (.base rfl)) ?_
              refine jg_adr _ rfl _ rfl rfl (op_move (.base rfl)) ?_
              refine jg_adr _ rfl _ rfl rfl (op_move (.base rfl)) ?_
              refine jg_adr _ rfl _ rfl rfl (op_move (.base rfl)) ?_
              refine jg_adr _ rfl _ rfl rfl (op_move (.base rfl)) ?_
              refine jg_callT [] [0, 3, 4, 18, 24] (ih _ _ _ _ a s q rfl rfl rfl (by rw [p7]; exact hsm) (by omega) h41.1 h41.2 (by rw [p7]; omega) (by rw [p2]; exact sorted_sub sA (Nat.le_refl _) k2) (by rw [p3]; exact sorted_sub sB (Nat.le_refl _) k4)) (.base rfl) rfl (by rw [p7]) (by omega) (.cons (.base rfl) (.cons (.base rfl) (.cons (.base rfl) (.cons (.base rfl) .nil)))) rfl rfl rfl rfl (.both rfl (.free rfl rfl (.free rfl rfl (.free rfl rfl (.free rfl rfl .nil))))) ?_
              intro y2 r2
              obtain ⟨q1, q2, q3, q4, q5⟩ := sym_parts (e := e) (b := b) r2 k1 (by omega) (by omega) k4 (by rw [p7]; exact hb)
              refine jg_nil ?_
              refine jn_keep [0, 3, 4, 18, 24] [100] (.cons rfl (.cons rfl (.cons rfl (.cons rfl (.cons rfl .nil))))) (.cons rfl .nil) ?_
              refine jn_seq (j_seq ?_)
              refine j_region ?_
              refine jg_adr _ rfl _ rfl rfl (op_move (.base rfl)) ?_
              refine jg_adr _ rfl _ rfl rfl (op_move (.base rfl)) ?_
              refine jg_adr _ rfl _ rfl rfl (op_lss (.base rfl) (.base rfl)) ?_
              refine jg_adr _ rfl _ rfl rfl (op_move (.base rfl)) ?_
              refine jg_gd _ _ _ _ _ _ rfl rfl rfl rfl rfl (fun hg => op_move (.base rfl)) ?_
              refine jg_gd _ _ _ _ _ _ rfl rfl rfl rfl rfl (fun hg => op_move (.base rfl)) ?_
              refine jg_gd _ _ _ _ _ _ rfl rfl rfl rfl rfl (fun hg => op_lss (.gd rfl hg) (.gd rfl hg)) ?_
              refine jg_adr _ rfl _ rfl rfl (op_pick_and (.base rfl) (.base rfl) rfl (by intro h; first | (rw [h]; rfl) | (rw [hg, h]; rfl) | (rw [h, hg]; rfl) | simp_all)) ?_
              refine jg_nil ?_
              refine jn_keep [0, 3, 4, 18, 24, 213] [100] (.cons rfl (.cons rfl (.cons rfl (.cons rfl (.cons rfl (.cons rfl .nil)))))) (.cons rfl .nil) ?_
              refine jn_seq ?_
              refine j_cond rfl (fun h43 => ?_) (fun h43 => ?_)
              · have h43 : q < e ∧ e < b := by simpa using h43
                refine j_region ?_
                refine jg_adr _ rfl _ rfl rfl (op_move (.base rfl)) ?_
                refine jg_adr _ rfl _ rfl rfl (op_move (.base rfl)) ?_
                refine jg_adr _ rfl _ rfl rfl (op_move (.base rfl)) ?_
                refine jg_adr _ rfl _ rfl rfl (op_move (.base rfl)) ?_
                refine jg_adr _ rfl _ rfl rfl (op_move (.base rfl)) ?_
                refine jg_callT [] [0] (ih _ _ _ _ q e b rfl rfl rfl (by rw [q5, p7]; exact hsm) (by omega) h43.1 h43.2 (by rw [q5, p7]; omega) (by rw [q2, p4]; exact sorted_sub sA k1 (Nat.le_refl _)) (by rw [q3, p5]; exact sorted_sub sB k3 (Nat.le_refl _))) (.base rfl) rfl (by rw [q5, p7]) (by omega) (.cons (.base rfl) (.cons (.base rfl) (.cons (.base rfl) (.cons (.base rfl) .nil)))) rfl rfl rfl rfl (.both rfl .nil) ?_
                intro y3 r3
                refine jg_nil ?_
                refine jn_keep [0] [100] (.cons rfl .nil) (.cons rfl .nil) ?_
                exact jn_finT0 (s0 := 0) Try.results47 rfl rfl hpos (sym_join k1 k2 k3 k4 hb k5 r1 r2 r3 k6 k7)
              · have h43 : q = e ∨ e = b := by (simp at h43; omega)
                refine j_skip ?_
                exact jn_finT0 (s0 := 0) Try.results47 rfl rfl hpos (sym_join k1 k2 k3 k4 hb k5 r1 r2 (sym_triv (by omega) k4 h43) k6 k7)
            · have h41 : a = s ∨ s = q := by (simp at h41; omega)
              have r2 := sym_triv_of (le := leF f) r1 (a := a) (m := s) (b := q) k1 (by omega) h41
              obtain ⟨q1, q2, q3, q4, q5⟩ := sym_parts (e := e) (b := b) r2 k1 (by omega) (by omega) k4 (by rw [p7]; exact hb)
              refine j_skip (jn_seq (j_seq ?_))
              refine j_region ?_
              refine jg_adr _ rfl _ rfl rfl (op_move (.base rfl)) ?_
              refine jg_adr _ rfl _ rfl rfl (op_move (.base rfl)) ?_
              refine jg_adr _ rfl _ rfl rfl (op_lss (.base rfl) (.base rfl)) ?_
              refine jg_adr _ rfl _ rfl rfl (op_move (.base rfl)) ?_
              refine jg_gd _ _ _ _ _ _ rfl rfl rfl rfl rfl (fun hg => op_move (.base rfl)) ?_
              refine jg_gd _ _ _ _ _ _ rfl rfl rfl rfl rfl (fun hg => op_move (.base rfl)) ?_
              refine jg_gd _ _ _ _ _ _ rfl rfl rfl rfl rfl (fun hg => op_lss (.gd rfl hg) (.gd rfl hg)) ?_
              refine jg_adr _ rfl _ rfl rfl (op_pick_and (.base rfl) (.base rfl) rfl (by intro h; first | (rw [h]; rfl) | (rw [hg, h]; rfl) | (rw [h, hg]; rfl) | simp_all)) ?_
              refine jg_nil ?_
              refine jn_keep [0, 3, 4, 18, 24, 213] [100] (.cons rfl (.cons rfl (.cons rfl (.cons rfl (.cons rfl (.cons rfl .nil)))))) (.cons rfl .nil) ?_
              refine jn_seq ?_
              refine j_cond rfl (fun h43 => ?_) (fun h43 => ?_)
              · have h43 : q < e ∧ e < b := by simpa using h43
                refine j_region ?_
                refine jg_adr _ rfl _ rfl rfl (op_move (.base rfl)) ?_
                refine jg_adr _ rfl _ rfl rfl (op_move (.base rfl)) ?_
                refine jg_adr _ rfl _ rfl rfl (op_move (.base rfl)) ?_
                refine jg_adr _ rfl _ rfl rfl (op_move (.base rfl)) ?_
                refine jg_adr _ rfl _ rfl rfl (op_move (.base rfl)) ?_
                refine jg_callT [] [0] (ih _ _ _ _ q e b rfl rfl rfl (by rw [q5, p7]; exact hsm) (by omega) h43.1 h43.2 (by rw [q5, p7]; omega) (by rw [q2, p4]; exact sorted_sub sA k1 (Nat.le_refl _)) (by rw [q3, p5]; exact sorted_sub sB k3 (Nat.le_refl _))) (.base rfl) rfl (by rw [q5, p7]) (by omega) (.cons (.base rfl) (.cons (.base rfl) (.cons (.base rfl) (.cons (.base rfl) .nil)))) rfl rfl rfl rfl (.both rfl .nil) ?_
                intro y3 r3
                refine jg_nil ?_
                refine jn_keep [0] [100] (.cons rfl .nil) (.cons rfl .nil) ?_
                exact jn_finT0 (s0 := 0) Try.results47 rfl rfl hpos (sym_join k1 k2 k3 k4 hb k5 r1 r2 r3 k6 k7)
              · have h43 : q = e ∨ e = b := by (simp at h43; omega)
                refine j_skip ?_
                exact jn_finT0 (s0 := 0) Try.results47 rfl rfl hpos (sym_join k1 k2 k3 k4 hb k5 r1 r2 (sym_triv (by omega) k4 h43) k6 k7)
      · have h27 : m ≤ q := by simp at h27; omega
        refine j_seq ?_
        refine j_region ?_
        refine jg_adr _ rfl _ rfl rfl (op_move (.base rfl)) ?_
        refine jg_adr _ rfl _ rfl rfl (op_assign (.base rfl)) ?_
        refine jg_nil ?_
        refine jn_keep [0, 1, 2, 3, 4, 18, 19, 20] [100] (.cons rfl (.cons rfl (.cons rfl (.cons rfl (.cons rfl (.cons rfl (.cons rfl (.cons rfl .nil)))))))) (.cons rfl .nil) ?_
        refine jn_seq ?_
        refine j_region ?_
        refine jg_adr _ rfl _ rfl rfl (op_move (.base rfl)) ?_
        refine jg_adr _ rfl _ rfl rfl (op_assign (.base rfl)) ?_
        refine jg_nil ?_
        refine jn_keep [0, 1, 2, 3, 4, 18, 19, 20, 21] [100] (.cons rfl (.cons rfl (.cons rfl (.cons rfl (.cons rfl (.cons rfl (.cons rfl (.cons rfl (.cons rfl .nil))))))))) (.cons rfl .nil) ?_
        refine jn_seq (j_seq ?_)
        refine j_region ?_
        refine jg_adr _ rfl _ rfl rfl (op_move (.base rfl)) ?_
        refine jg_adr _ rfl _ rfl rfl (op_sub (.base rfl) (.base rfl) (w64 (by omega))) ?_
        refine jg_adr _ rfl _ rfl rfl (op_assign (.base rfl)) ?_
        refine jg_nil ?_
        rw [show (((q + m : Nat) : Int) - 1) = ((q + m - 1 : Nat) : Int) from by omega]
        refine jn_keep [0, 1, 2, 3, 4, 18, 19, 20, 21, 22] [100] (.cons rfl (.cons rfl (.cons rfl (.cons rfl (.cons rfl (.cons rfl (.cons rfl (.cons rfl (.cons rfl (.cons rfl .nil)))))))))) (.cons rfl .nil) ?_
        refine jn_seq (j_seq (j_block ?_))
        first | (have _hh : q < m := h27; refine j_loopp (ι := (Nat × Nat)) (fun (s, r) => ⟨[(0, .both (.own 100 rFact.n 0 xs.length) (.slice (some ⟨b0, o0, none⟩) xs.length cap0)), (1, .raw (.int .i64 ((a : Nat) : Int))), (2, .raw (.int .i64 ((m : Nat) : Int))), (3, .raw (.int .i64 ((b : Nat) : Int))), (4, .tv (rFun2 Try.prog rFact rFact (rInt .i64) (fun _ _ => True)) f), (18, .raw (.int .i64 ((q : Nat) : Int))), (19, .raw (.int .i64 (((q + m) : Nat) : Int))), (20, .raw (.int .i64 ((s : Nat) : Int))), (21, .raw (.int .i64 ((r : Nat) : Int))), (22, .raw (.int .i64 (((q + m - 1) : Nat) : Int)))], [(100, ⟨rFact, xs⟩)]⟩) (fun (s, r) => BS (fun c => leF f (xs.getD (c) (0, (0, (0, ((0, (0, 0)), ((0, 0), 0)))))) (xs.getD (q + m - 1 - c) (0, (0, (0, ((0, (0, 0)), ((0, 0), 0))))))) (q + m - b) (q) s r) (fun (s, r) => r - s) (q + m - b, q) (bs_start (by omega)) (fun a w hi => (Sub.inv ⟨(by repeat (first | exact SubS_nil | refine SubS_cons rfl (by first | rfl | (simp; done) | assumption) ?_)), (by repeat (first | exact SubH_nil | refine SubH_cons rfl (by first | rfl | (simp; done) | assumption) ?_))⟩ hi)) ?_) | (have _hh : m ≤ q := h27; refine j_loopp (ι := (Nat × Nat)) (fun (s, r) => ⟨[(0, .both (.own 100 rFact.n 0 xs.length) (.slice (some ⟨b0, o0, none⟩) xs.length cap0)), (1, .raw (.int .i64 ((a : Nat) : Int))), (2, .raw (.int .i64 ((m : Nat) : Int))), (3, .raw (.int .i64 ((b : Nat) : Int))), (4, .tv (rFun2 Try.prog rFact rFact (rInt .i64) (fun _ _ => True)) f), (18, .raw (.int .i64 ((q : Nat) : Int))), (19, .raw (.int .i64 (((q + m) : Nat) : Int))), (20, .raw (.int .i64 ((s : Nat) : Int))), (21, .raw (.int .i64 ((r : Nat) : Int))), (22, .raw (.int .i64 (((q + m - 1) : Nat) : Int)))], [(100, ⟨rFact, xs⟩)]⟩) (fun (s, r) => BS (fun c => leF f (xs.getD (c) (0, (0, (0, ((0, (0, 0)), ((0, 0), 0)))))) (xs.getD (q + m - 1 - c) (0, (0, (0, ((0, (0, 0)), ((0, 0), 0))))))) (a) (m) s r) (fun (s, r) => r - s) (a, m) (bs_start (by omega)) (fun a w hi => (Sub.inv ⟨(by repeat (first | exact SubS_nil | refine SubS_cons rfl (by first | rfl | (simp; done) | assumption) ?_)), (by repeat (first | exact SubH_nil | refine SubH_cons rfl (by first | rfl | (simp; done) | assumption) ?_))⟩ hi)) ?_)
        rintro ⟨s, r⟩ hbs
        refine j_seq (j_seq ?_)
        refine j_region ?_
        refine jg_adr _ rfl _ rfl rfl (op_move (.base rfl)) ?_
        refine jg_adr _ rfl _ rfl rfl (op_move (.base rfl)) ?_
        refine jg_adr _ rfl _ rfl rfl (op_lss (.base rfl) (.base rfl)) ?_
        refine jg_nil ?_
        refine jn_keep [0, 1, 2, 3, 4, 18, 19, 20, 21, 22, 151] [100] (.cons rfl (.cons rfl (.cons rfl (.cons rfl (.cons rfl (.cons rfl (.cons rfl (.cons rfl (.cons rfl (.cons rfl (.cons rfl .nil))))))))))) (.cons rfl .nil) ?_
        refine jn_seq ?_
        refine j_cond rfl (fun h33 => ?_) (fun h33 => ?_)
        · have h33 : s < r := by simp at h33; omega
          obtain ⟨_, _, _, _, _⟩ := id hbs
          refine j_skip (jn_seq (j_block (j_seq ?_)))
          refine j_region ?_
          refine jg_adr _ rfl _ rfl rfl (op_move (.base rfl)) ?_
          refine jg_adr _ rfl _ rfl rfl (op_move (.base rfl)) ?_
          refine jg_adr _ rfl _ rfl rfl (op_add (.base rfl) (.base rfl) (w64 (by omega))) ?_
          refine jg_adr _ rfl _ rfl rfl (op_conv ⟨_, Try.underlying3⟩ Try.underlying72 (.base rfl) (wu64 (by omega))) ?_
          refine jg_adr _ rfl _ rfl rfl (op_shr (.base rfl) (.base rfl) (by omega) half_eq) ?_
          refine jg_adr _ rfl _ rfl rfl (op_conv ⟨_, Try.underlying72⟩ Try.underlying3 (.base rfl) (w64 (by omega))) ?_
          refine jg_adr _ rfl _ rfl rfl (op_assign (.base rfl)) ?_
          refine jg_nil ?_
          refine jn_keep [0, 1, 2, 3, 4, 18, 19, 20, 21, 22, 23] [100] (.cons rfl (.cons rfl (.cons rfl (.cons rfl (.cons rfl (.cons rfl (.cons rfl (.cons rfl (.cons rfl (.cons rfl (.cons rfl .nil))))))))))) (.cons rfl .nil) ?_
          refine jn_seq (j_seq ?_)
          refine j_draw mo (by kernel_rfl) (
            AS.cons _ _ rfl (ga_adr rfl rfl rfl (op_move (.base rfl))) (
              AS.cons _ _ rfl (ga_adr rfl rfl rfl (op_move (.base rfl))) (
              AS.cons _ _ rfl (ga_adr rfl rfl rfl (op_move (.base rfl))) (
              AS.cons _ _ rfl (ga_adr rfl rfl rfl (op_move (.base rfl))) (
              AS.cons _ _ rfl (ga_adr rfl rfl rfl (op_sub (.base rfl) (.base rfl) (w64 (by omega)))) (
              AS.cons _ _ rfl (ga_adr rfl rfl rfl (op_oindex Try.underlying22 ty45 (.b1 rfl) (.base rfl) (show (((q + m - 1 : Nat) : Int) - ((((s + r) / 2) : Nat) : Int)) = ((q + m - 1 - ((s + r) / 2) : Nat) : Int) from by omega) (by first | omega | (simp; done) | (simp; omega)))) (
              AS.cons _ _ rfl (ga_adr rfl rfl rfl (op_oload ty45 (.base rfl) rfl (getD_some (z := ((0, (0, (0, ((0, (0, 0)), ((0, 0), 0))))) : TFact)) (by omega)) (Lens.id _))) (
              AS.cons _ _ rfl (ga_adr rfl rfl rfl (op_move (.base rfl))) (
              AS.cons _ _ rfl (ga_adr rfl rfl rfl (op_move (.base rfl))) (
              AS.cons _ _ rfl (ga_adr rfl rfl rfl (op_oindex Try.underlying22 ty45 (.b1 rfl) (.base rfl) rfl (by first | omega | (simp; done) | (simp; omega)))) (
              AS.cons _ _ rfl (ga_adr rfl rfl rfl (op_oload ty45 (.base rfl) rfl (getD_some (z := ((0, (0, (0, ((0, (0, 0)), ((0, 0), 0))))) : TFact)) (by omega)) (Lens.id _))) (
              AS.cons _ _ rfl (ga_adr rfl rfl rfl (op_callf2 (.base rfl) (.tv (.base rfl)) (.tv (.base rfl)) trivial)) (
              AS.cons _ _ rfl (ga_adr rfl rfl rfl (op_lss (.base rfl) (.base rfl))) (
              AS.cons _ _ rfl (ga_adr rfl rfl rfl (op_not (.base rfl))) (
              AS.nil))))))))))))))) ?_
          refine jn_keep [0, 1, 2, 3, 4, 18, 19, 20, 21, 22, 23, 171] [100] (.cons rfl (.cons rfl (.cons rfl (.cons rfl (.cons rfl (.cons rfl (.cons rfl (.cons rfl (.cons rfl (.cons rfl (.cons rfl (.cons rfl .nil)))))))))))) (.cons rfl .nil) ?_
          refine jn_seq ?_
          refine j_cond rfl (fun h35 => ?_) (fun h35 => ?_)
          · have h35 : leF f (xs.getD (((s + r) / 2)) (0, (0, (0, ((0, (0, 0)), ((0, 0), 0)))))) (xs.getD (q + m - 1 - ((s + r) / 2)) (0, (0, (0, ((0, (0, 0)), ((0, 0), 0)))))) = true := by simpa [leF] using h35
            refine j_region ?_
            refine jg_adr _ rfl _ rfl rfl (op_move (.base rfl)) ?_
            refine jg_adr _ rfl _ rfl rfl (op_add (.base rfl) (.base rfl) (w64 (by omega))) ?_
            refine jg_adr _ rfl _ rfl rfl (op_assign (.base rfl)) ?_
            refine jg_nil ?_
            refine jn_keep [0, 1, 2, 3, 4, 18, 19, 20, 21, 22] [100] (.cons rfl (.cons rfl (.cons rfl (.cons rfl (.cons rfl (.cons rfl (.cons rfl (.cons rfl (.cons rfl (.cons rfl .nil)))))))))) (.cons rfl .nil) ?_
            refine jn_blk ?_
            first | (have _hh : (leF f (xs.getD (((s + r) / 2)) (0, (0, (0, ((0, (0, 0)), ((0, 0), 0)))))) (xs.getD (q + m - 1 - ((s + r) / 2)) (0, (0, (0, ((0, (0, 0)), ((0, 0), 0))))))) = true := h35; exact jn_loop (fun a w hi => ⟨(((s + r) / 2) + 1, r), (by first | omega | (simp; omega)), (bs_t hbs h33 _hh), Sub.inv ⟨(by repeat (first | exact SubS_nil | refine SubS_cons rfl (by first | rfl | (simp; done) | assumption) ?_)), (by repeat (first | exact SubH_nil | refine SubH_cons rfl (by first | rfl | (simp; done) | assumption) ?_))⟩ hi⟩)) | (have _hh : (leF f (xs.getD (((s + r) / 2)) (0, (0, (0, ((0, (0, 0)), ((0, 0), 0)))))) (xs.getD (q + m - 1 - ((s + r) / 2)) (0, (0, (0, ((0, (0, 0)), ((0, 0), 0))))))) = false := h35; exact jn_loop (fun a w hi => ⟨(s, ((s + r) / 2)), (by first | omega | (simp; omega)), (bs_f hbs h33 _hh), Sub.inv ⟨(by repeat (first | exact SubS_nil | refine SubS_cons rfl (by first | rfl | (simp; done) | assumption) ?_)), (by repeat (first | exact SubH_nil | refine SubH_cons rfl (by first | rfl | (simp; done) | assumption) ?_))⟩ hi⟩))
          · have h35 : leF f (xs.getD (((s + r) / 2)) (0, (0, (0, ((0, (0, 0)), ((0, 0), 0)))))) (xs.getD (q + m - 1 - ((s + r) / 2)) (0, (0, (0, ((0, (0, 0)), ((0, 0), 0)))))) = false := by (simp [leF] at h35 ⊢; omega)
            refine j_region ?_
            refine jg_adr _ rfl _ rfl rfl (op_move (.base rfl)) ?_
            refine jg_adr _ rfl _ rfl rfl (op_assign (.base rfl)) ?_
            refine jg_nil ?_
            refine jn_keep [0, 1, 2, 3, 4, 18, 19, 20, 21, 22] [100] (.cons rfl (.cons rfl (.cons rfl (.cons rfl (.cons rfl (.cons rfl (.cons rfl (.cons rfl (.cons rfl (.cons rfl .nil)))))))))) (.cons rfl .nil) ?_
            refine jn_blk ?_
            first | (have _hh : (leF f (xs.getD (((s + r) / 2)) (0, (0, (0, ((0, (0, 0)), ((0, 0), 0)))))) (xs.getD (q + m - 1 - ((s + r) / 2)) (0, (0, (0, ((0, (0, 0)), ((0, 0), 0))))))) = true := h35; exact jn_loop (fun a w hi => ⟨(((s + r) / 2) + 1, r), (by first | omega | (simp; omega)), (bs_t hbs h33 _hh), Sub.inv ⟨(by repeat (first | exact SubS_nil | refine SubS_cons rfl (by first | rfl | (simp; done) | assumption) ?_)), (by repeat (first | exact SubH_nil | refine SubH_cons rfl (by first | rfl | (simp; done) | assumption) ?_))⟩ hi⟩)) | (have _hh : (leF f (xs.getD (((s + r) / 2)) (0, (0, (0, ((0, (0, 0)), ((0, 0), 0)))))) (xs.getD (q + m - 1 - ((s + r) / 2)) (0, (0, (0, ((0, (0, 0)), ((0, 0), 0))))))) = false := h35; exact jn_loop (fun a w hi => ⟨(s, ((s + r) / 2)), (by first | omega | (simp; omega)), (bs_f hbs h33 _hh), Sub.inv ⟨(by repeat (first | exact SubS_nil | refine SubS_cons rfl (by first | rfl | (simp; done) | assumption) ?_)), (by repeat (first | exact SubH_nil | refine SubH_cons rfl (by first | rfl | (simp; done) | assumption) ?_))⟩ hi⟩))
        · obtain rfl : s = r := by (have := hbs.2.1; simp at h33; omega)
          obtain ⟨e, he⟩ : ∃ e, e = q + m - s := ⟨_, rfl⟩
          obtain ⟨k1, k2, k3, k4, k5, k6, k7⟩ := sym_found hc.tr hc.to hb sA sB ham hmb hq (by omega) hbs he
          refine j_exit (je_seq (je_loop (je_blk (jn_seq (j_seq ?_)))))
          refine j_region ?_
          refine jg_adr _ rfl _ rfl rfl (op_move (.base rfl)) ?_
          refine jg_adr _ rfl _ rfl rfl (op_move (.base rfl)) ?_
          refine jg_adr _ rfl _ rfl rfl (op_sub (.base rfl) (.base rfl) (w64 (by omega))) ?_
          refine jg_adr _ rfl _ rfl rfl (op_assign (.base rfl)) ?_
          refine jg_nil ?_
          rw [show (((q + m : Nat) : Int) - (s : Int)) = (e : Int) from by omega]
          refine jn_keep [0, 1, 2, 3, 4, 18, 20, 24] [100] (.cons rfl (.cons rfl (.cons rfl (.cons rfl (.cons rfl (.cons rfl (.cons rfl (.cons rfl .nil)))))))) (.cons rfl .nil) ?_
          refine jn_seq (j_seq (j_seq ?_))
          refine j_region ?_
          refine jg_adr _ rfl _ rfl rfl (op_move (.base rfl)) ?_
          refine jg_adr _ rfl _ rfl rfl (op_move (.base rfl)) ?_
          refine jg_adr _ rfl _ rfl rfl (op_lss (.base rfl) (.base rfl)) ?_
          refine jg_adr _ rfl _ rfl rfl (op_move (.base rfl)) ?_
          refine jg_gd _ _ _ _ _ _ rfl rfl rfl rfl rfl (fun hg => op_move (.base rfl)) ?_
          refine jg_gd _ _ _ _ _ _ rfl rfl rfl rfl rfl (fun hg => op_move (.base rfl)) ?_
          refine jg_gd _ _ _ _ _ _ rfl rfl rfl rfl rfl (fun hg => op_lss (.gd rfl hg) (.gd rfl hg)) ?_
          refine jg_adr _ rfl _ rfl rfl (op_pick_and (.base rfl) (.base rfl) rfl (by intro h; first | (rw [h]; rfl) | (rw [hg, h]; rfl) | (rw [h, hg]; rfl) | simp_all)) ?_
          refine jg_nil ?_
          refine jn_keep [0, 1, 2, 3, 4, 18, 20, 24, 185] [100] (.cons rfl (.cons rfl (.cons rfl (.cons rfl (.cons rfl (.cons rfl (.cons rfl (.cons rfl (.cons rfl .nil))))))))) (.cons rfl .nil) ?_
          refine jn_seq ?_
          refine j_cond rfl (fun h39 => ?_) (fun h39 => ?_)
          · have h39 : s < m ∧ m < e := by simpa using h39
            refine j_region ?_
            refine jg_adr _ rfl _ rfl rfl (op_move (.base rfl)) ?_
            refine jg_adr _ rfl _ rfl rfl (op_move (.base rfl)) ?_
            refine jg_adr _ rfl _ rfl rfl (op_move (.base rfl)) ?_
            refine jg_adr _ rfl _ rfl rfl (op_move (.base rfl)) ?_
            refine jg_adr _ rfl _ rfl rfl (op_move (.base rfl)) ?_
            refine jg_callT [] [0, 1, 3, 4, 18, 20, 24] (rot_c f xs s m e rfl rfl rfl h39.1 h39.2 (by omega)) (.base rfl) rfl rfl (by omega) (.cons (.base rfl) (.cons (.base rfl) (.cons (.base rfl) (.cons (.base rfl) .nil)))) rfl rfl rfl rfl (.both rfl (.free rfl rfl (.free rfl rfl (.free rfl rfl (.free rfl rfl (.free rfl rfl (.free rfl rfl .nil))))))) ?_
            intro y1 hy1
            have r1 : RotQ xs s m e y1 := hy1
            obtain ⟨p1, p2, p3, p4, p5, p6, p7⟩ := rotq_parts r1 k1 k2 k3 k4 hb k5
            refine jg_nil ?_
            refine jn_keep [0, 1, 3, 4, 18, 20, 24] [100] (.cons rfl (.cons rfl (.cons rfl (.cons rfl (.cons rfl (.cons rfl (.cons rfl .nil))))))) (.cons rfl .nil) ?_
            refine jn_seq (j_seq (j_seq ?_))
            refine j_region ?_
            refine jg_adr _ rfl _ rfl rfl (op_move (.base rfl)) ?_
            refine jg_adr _ rfl _ rfl rfl (op_move (.base rfl)) ?_
            refine jg_adr _ rfl _ rfl rfl (op_lss (.base rfl) (.base rfl)) ?_
            refine jg_adr _ rfl _ rfl rfl (op_move (.base rfl)) ?_
            refine jg_gd _ _ _ _ _ _ rfl rfl rfl rfl rfl (fun hg => op_move (.base rfl)) ?_
            refine jg_gd _ _ _ _ _ _ rfl rfl rfl rfl rfl (fun hg => op_move (.base rfl)) ?_
            refine jg_gd _ _ _ _ _ _ rfl rfl rfl rfl rfl (fun hg => op_lss (.gd rfl hg) (.gd rfl hg)) ?_
            refine jg_adr _ rfl _ rfl rfl (op_pick_and (.base rfl) (.base rfl) rfl (by intro h; first | (rw [h]; rfl) | (rw [hg, h]; rfl) | (rw [h, hg]; rfl) | simp_all)) ?_
            refine jg_nil ?_
            refine jn_keep [0, 1, 3, 4, 18, 20, 24, 199] [100] (.cons rfl (.cons rfl (.cons rfl (.cons rfl (.cons rfl (.cons rfl (.cons rfl (.cons rfl .nil)))))))) (.cons rfl .nil) ?_
            refine jn_seq ?_
            refine j_cond rfl (fun h41 => ?_) (fun h41 => ?_)
            · have h41 : a < s ∧ s < q := by simpa using h41
              refine j_region ?_
              refine jg_adr _ rfl _ rfl rfl (op_move (.base rfl)) ?_
              refine jg_adr _ rfl _ rfl rfl (op_move (.base rfl)) ?_
              refine jg_adr _ rfl _ rfl rfl (op_move (.base rfl)) ?_
              refine jg_adr _ rfl _ rfl rfl (op_move (.base rfl)) ?_
              refine jg_adr _ rfl _ rfl rfl (op_move (.base rfl)) ?_
              refine jg_callT [] [0, 3, 4, 18, 24] (ih _ _ _ _ a s q rfl rfl rfl (by rw [p7]; exact hsm) (by omega) h41.1 h41.2 (by rw [p7]; omega) (by rw [p2]; exact sorted_sub sA (Nat.le_refl _) k2) (by rw [p3]; exact sorted_sub sB (Nat.le_refl _) k4)) (.base rfl) rfl (by rw [p7]) (by omega) (.cons (.base rfl) (.cons (.base rfl) (.cons (.base rfl) (.cons (.base rfl) .nil)))) rfl rfl rfl rfl (.both rfl (.free rfl rfl (.free rfl rfl (.free rfl rfl (.free rfl rfl .nil))))) ?_
              intro y2 r2
              obtain ⟨q1, q2, q3, q4, q5⟩ := sym_parts (e := e) (b := b) r2 k1 (by omega) (by omega) k4 (by rw [p7]; exact hb)
              refine jg_nil ?_
              refine jn_keep [0, 3, 4, 18, 24] [100] (.cons rfl (.cons rfl (.cons rfl (.cons rfl (.cons rfl .nil))))) (.cons rfl .nil) ?_
              refine jn_seq (j_seq ?_)
              refine j_region ?_
              refine jg_adr _ rfl _ rfl rfl (op_move (.base rfl)) ?_
              refine jg_adr _ rfl _ rfl rfl (op_move (.base rfl)) ?_
              refine jg_adr _ rfl _ rfl rfl (op_lss (.base rfl) (.base rfl)) ?_
              refine jg_adr _ rfl _ rfl rfl (op_move (.base rfl)) ?_
              refine jg_gd _ _ _ _ _ _ rfl rfl rfl rfl rfl (fun hg => op_move (.base rfl)) ?_
              refine jg_gd _ _ _ _ _ _ rfl rfl rfl rfl rfl (fun hg => op_move (.base rfl)) ?_
              refine jg_gd _ _ _ _ _ _ rfl rfl rfl rfl rfl (fun hg => op_lss (.gd rfl hg) (.gd rfl hg)) ?_
              refine jg_adr _ rfl _ rfl rfl (op_pick_and (.base rfl) (.base rfl) rfl (by intro h; first | (rw [h]; rfl) | (rw [hg, h]; rfl) | (rw [h, hg]; rfl) | simp_all)) ?_
              refine jg_nil ?_
              refine jn_keep [0, 3, 4, 18, 24, 213] [100] (.cons rfl (.cons rfl (.cons rfl (.cons rfl (.cons rfl (.cons rfl .nil)))))) (.cons rfl .nil) ?_
              refine jn_seq ?_
              refine j_cond rfl (fun h43 => ?_) (fun h43 => ?_)
              · have h43 : q < e ∧ e < b := by simpa using h43
                refine j_region ?_
                refine jg_adr _ rfl _ rfl rfl (op_move (.base rfl)) ?_
                refine jg_adr _ rfl _ rfl rfl (op_move (.base rfl)) ?_
                refine jg_adr _ rfl _ rfl rfl (op_move (.base rfl)) ?_
                refine jg_adr _ rfl _ rfl rfl (op_move (.base rfl)) ?_
                refine jg_adr _ rfl _ rfl rfl (op_move (.base rfl)) ?_
                refine jg_callT [] [0] (ih _ _ _ _ q e b rfl rfl rfl (by rw [q5, p7]; exact hsm) (by omega) h43.1 h43.2 (by rw [q5, p7]; omega) (by rw [q2, p4]; exact sorted_sub sA k1 (Nat.le_refl _)) (by rw [q3, p5]; exact sorted_sub sB k3 (Nat.le_refl _))) (.base rfl) rfl (by rw [q5, p7]) (by omega) (.cons (.base rfl) (.cons (.base rfl) (.cons (.base rfl) (.cons (.base rfl) .nil)))) rfl rfl rfl rfl (.both rfl .nil) ?_
                intro y3 r3
                refine jg_nil ?_
                refine jn_keep [0] [100] (.cons rfl .nil) (.cons rfl .nil) ?_
                exact jn_finT0 (s0 := 0) Try.results47 rfl rfl hpos (sym_join k1 k2 k3 k4 hb k5 r1 r2 r3 k6 k7)
              · have h43 : q = e ∨ e = b := by (simp at h43; omega)
                refine j_skip ?_
                exact jn_finT0 (s0 := 0) Try.results47 rfl rfl hpos (sym_join k1 k2 k3 k4 hb k5 r1 r2 (sym_triv (by omega) k4 h43) k6 k7)
            · have h41 : a = s ∨ s = q := by (simp at h41; omega)
              have r2 := sym_triv_of (le := leF f) r1 (a := a) (m := s) (b := q) k1 (by omega) h41
              obtain ⟨q1, q2, q3, q4, q5⟩ := sym_parts (e := e) (b := b) r2 k1 (by omega) (by omega) k4 (by rw [p7]; exact hb)
              refine j_skip (jn_seq (j_seq ?_))
              refine j_region ?_
              refine jg_adr _ rfl _ rfl rfl (op_move (.base rfl)) ?_
              refine jg_adr _ rfl _ rfl rfl (op_move (.base rfl)) ?_
              refine jg_adr _ rfl _ rfl rfl (op_lss (.base rfl) (.base rfl)) ?_
              refine jg_adr _ rfl _ rfl rfl (op_move (.base rfl)) ?_
              refine jg_gd _ _ _ _ _ _ rfl rfl rfl rfl rfl (fun hg => op_move (.base rfl)) ?_
              refine jg_gd _ _ _ _ _ _ rfl rfl rfl rfl rfl (fun hg => op_move (.base rfl)) ?_
              refine jg_gd _ _ _ _ _ _ rfl rfl rfl rfl rfl (fun hg => op_lss (.gd rfl hg) (.gd rfl hg)) ?_
              refine jg_adr _ rfl _ rfl rfl (op_pick_and (.base rfl) (.base rfl) rfl (by intro h; first | (rw [h]; rfl) | (rw [hg, h]; rfl) | (rw [h, hg]; rfl) | simp_all)) ?_
              refine jg_nil ?_
              refine jn_keep [0, 3, 4, 18, 24, 213] [100] (.cons rfl (.cons rfl (.cons rfl (.cons rfl (.cons rfl (.cons rfl .nil)))))) (.cons rfl .nil) ?_
              refine jn_seq ?_
              refine j_cond rfl (fun h43 => ?_) (fun h43 => ?_)
              · have h43 : q < e ∧ e < b := by simpa using h43
                refine j_region ?_
                refine jg_adr _ rfl _ rfl rfl (op_move (.base rfl)) ?_
                refine jg_adr _ rfl _ rfl rfl (op_move (.base rfl)) ?_
                refine jg_adr _ rfl _ rfl rfl (op_move (.base rfl)) ?_
                refine jg_adr _ rfl _ rfl rfl (op_move (.base rfl)) ?_
                refine jg_adr _ rfl _ rfl rfl (op_move (.base rfl)) ?_
                refine jg_callT [] [0] (ih _ _ _ _ q e b rfl rfl rfl (by rw [q5, p7]; exact hsm) (by omega) h43.1 h43.2 (by rw [q5, p7]; omega) (by rw [q2, p4]; exact sorted_sub sA k1 (Nat.le_refl _)) (by rw [q3, p5]; exact sorted_sub sB k3 (Nat.le_refl _))) (.base rfl) rfl (by rw [q5, p7]) (by omega) (.cons (.base rfl) (.cons (.base rfl) (.cons (.base rfl) (.cons (.base rfl) .nil)))) rfl rfl rfl rfl (.both rfl .nil) ?_
                intro y3 r3
                refine jg_nil ?_
                refine jn_keep [0] [100] (.cons rfl .nil) (.cons rfl .nil) ?_
                exact jn_finT0 (s0 := 0) Try.results47 rfl rfl hpos (sym_join k1 k2 k3 k4 hb k5 r1 r2 r3 k6 k7)
              · have h43 : q = e ∨ e = b := by (simp at h43; omega)
                refine j_skip ?_
                exact jn_finT0 (s0 := 0) Try.results47 rfl rfl hpos (sym_join k1 k2 k3 k4 hb k5 r1 r2 (sym_triv (by omega) k4 h43) k6 k7)
          · have h39 : s = m ∨ m = e := by (simp at h39; omega)
            have r1 : RotQ xs s m e xs := rotq_triv k2 k3 h39
            obtain ⟨p1, p2, p3, p4, p5, p6, p7⟩ := rotq_parts r1 k1 k2 k3 k4 hb k5
            refine j_skip (jn_seq (j_seq (j_seq ?_)))
            refine j_region ?_
            refine jg_adr _ rfl _ rfl rfl (op_move (.base rfl)) ?_
            refine jg_adr _ rfl _ rfl rfl (op_move (.base rfl)) ?_
            refine jg_adr _ rfl _ rfl rfl (op_lss (.base rfl) (.base rfl)) ?_
            refine jg_adr _ rfl _ rfl rfl (op_move (.base rfl)) ?_
            refine jg_gd _ _ _ _ _ _ rfl rfl rfl rfl rfl (fun hg => op_move (.base rfl)) ?_
            refine jg_gd _ _ _ _ _ _ rfl rfl rfl rfl rfl (fun hg => op_move (.base rfl)) ?_
            refine jg_gd _ _ _ _ _ _ rfl rfl rfl rfl rfl (fun hg => op_lss (.gd rfl hg) (.gd rfl hg)) ?_
            refine jg_adr _ rfl _ rfl rfl (op_pick_and (.base rfl) (.base rfl) rfl (by intro h; first | (rw [h]; rfl) | (rw [hg, h]; rfl) | (rw [h, hg]; rfl) | simp_all)) ?_
            refine jg_nil ?_
            refine jn_keep [0, 1, 3, 4, 18, 20, 24, 199] [100] (.cons rfl (.cons rfl (.cons rfl (.cons rfl (.cons rfl (.cons rfl (.cons rfl (.cons rfl .nil)))))))) (.cons rfl .nil) ?_
            refine jn_seq ?_
            refine j_cond rfl (fun h41 => ?_) (fun h41 => ?_)
            · have h41 : a < s ∧ s < q := by simpa using h41
              refine j_region ?_
              refine jg_adr _ rfl _ rfl rfl (op_move (.base rfl)) ?_
              refine jg_adr _ rfl _ rfl rfl (op_move (.base rfl)) ?_
              refine jg_adr _ rfl _ rfl rfl (op_move (.base rfl)) ?_
              refine jg_adr _ rfl _ rfl rfl (op_move (.base rfl)) ?_
              refine jg_adr _ rfl _ rfl rfl (op_move (.base rfl)) ?_
              refine jg_callT [] [0, 3, 4, 18, 24] (ih _ _ _ _ a s q rfl rfl rfl (by rw [p7]; exact hsm) (by omega) h41.1 h41.2 (by rw [p7]; omega) (by rw [p2]; exact sorted_sub sA (Nat.le_refl _) k2) (by rw [p3]; exact sorted_sub sB (Nat.le_refl _) k4)) (.base rfl) rfl (by rw [p7]) (by omega) (.cons (.base rfl) (.cons (.base rfl) (.cons (.base rfl) (.cons (.base rfl) .nil)))) rfl rfl rfl rfl (.both rfl (.free rfl rfl (.free rfl rfl (.free rfl rfl (.free rfl rfl .nil))))) ?_
              intro y2 r2
              obtain ⟨q1, q2, q3, q4, q5⟩ := sym_parts (e := e) (b := b) r2 k1 (by omega) (by omega) k4 (by rw [p7]; exact hb)
              refine jg_nil ?_
              refine jn_keep [0, 3, 4, 18, 24] [100] (.cons rfl (.cons rfl (.cons rfl (.cons rfl (.cons rfl .nil))))) (.cons rfl .nil) ?_
              refine jn_seq (j_seq ?_)
              refine j_region ?_
              refine jg_adr _ rfl _ rfl rfl (op_move (.base rfl)) ?_
              refine jg_adr _ rfl _ rfl rfl (op_move (.base rfl)) ?_
              refine jg_adr _ rfl _ rfl rfl (op_lss (.base rfl) (.base rfl)) ?_
              refine jg_adr _ rfl _ rfl rfl (op_move (.base rfl)) ?_
              refine jg_gd _ _ _ _ _ _ rfl rfl rfl rfl rfl (fun hg => op_move (.base rfl)) ?_
              refine jg_gd _ _ _ _ _ _ rfl rfl rfl rfl rfl (fun hg => op_move (.base rfl)) ?_
              refine jg_gd _ _ _ _ _ _ rfl rfl rfl rfl rfl (fun hg => op_lss (.gd rfl hg) (.gd rfl hg)) ?_
              refine jg_adr _ rfl _ rfl rfl (op_pick_and (.base rfl) (.base rfl) rfl (by intro h; first | (rw [h]; rfl) | (rw [hg, h]; rfl) | (rw [h, hg]; rfl) | simp_all)) ?_
              refine jg_nil ?_
              refine jn_keep [0, 3, 4, 18, 24, 213] [100] (.cons rfl (.cons rfl (.cons rfl (.cons rfl (.cons rfl (.cons rfl .nil)))))) (.cons rfl .nil) ?_
              refine jn_seq ?_
              refine j_cond rfl (fun h43 => ?_) (fun h43 => ?_)
              · have h43 : q < e ∧ e < b := by simpa using h43
                refine j_region ?_
                refine jg_adr _ rfl _ rfl rfl (op_move (.base rfl)) ?_
                refine jg_adr _ rfl _ rfl rfl (op_move (.base rfl)) ?_
                refine jg_adr _ rfl _ rfl rfl (op_move (.base rfl)) ?_
                refine jg_adr _ rfl _ rfl rfl (op_move (.base rfl)) ?_
                refine jg_adr _ rfl _ rfl rfl (op_move (.base rfl)) ?_
                refine jg_callT [] [0] (ih _ _ _ _ q e b rfl rfl rfl (by rw [q5, p7]; exact hsm) (by omega) h43.1 h43.2 (by rw [q5, p7]; omega) (by rw [q2, p4]; exact sorted_sub sA k1 (Nat.le_refl _)) (by rw [q3, p5]; exact sorted_sub sB k3 (Nat.le_refl _))) (.base rfl) rfl (by rw [q5, p7]) (by omega) (.cons (.base rfl) (.cons (.base rfl) (.cons (.base rfl) (.cons (.base rfl) .nil)))) rfl rfl rfl rfl (.both rfl .nil) ?_
                intro y3 r3
                refine jg_nil ?_
                refine jn_keep [0] [100] (.cons rfl .nil) (.cons rfl .nil) ?_
                exact jn_finT0 (s0 := 0) Try.results47 rfl rfl hpos (sym_join k1 k2 k3 k4 hb k5 r1 r2 r3 k6 k7)
              · have h43 : q = e ∨ e = b := by (simp at h43; omega)
                refine j_skip ?_
                exact jn_finT0 (s0 := 0) Try.results47 rfl rfl hpos (sym_join k1 k2 k3 k4 hb k5 r1 r2 (sym_triv (by omega) k4 h43) k6 k7)
            · have h41 : a = s ∨ s = q := by (simp at h41; omega)
              have r2 := sym_triv_of (le := leF f) r1 (a := a) (m := s) (b := q) k1 (by omega) h41
              obtain ⟨q1, q2, q3, q4, q5⟩ := sym_parts (e := e) (b := b) r2 k1 (by omega) (by omega) k4 (by rw [p7]; exact hb)
              refine j_skip (jn_seq (j_seq ?_))
              refine j_region ?_
              refine jg_adr _ rfl _ rfl rfl (op_move (.base rfl)) ?_
              refine jg_adr _ rfl _ rfl rfl (op_move (.base rfl)) ?_
              refine jg_adr _ rfl _ rfl rfl (op_lss (.base rfl) (.base rfl)) ?_
              refine jg_adr _ rfl _ rfl rfl (op_move (.base rfl)) ?_
              refine jg_gd _ _ _ _ _ _ rfl rfl rfl rfl rfl (fun hg => op_move (.base rfl)) ?_
              refine jg_gd _ _ _ _ _ _ rfl rfl rfl rfl rfl (fun hg => op_move (.base rfl)) ?_
              refine jg_gd _ _ _ _ _ _ rfl rfl rfl rfl rfl (fun hg => op_lss (.gd rfl hg) (.gd rfl hg)) ?_
              refine jg_adr _ rfl _ rfl rfl (op_pick_and (.base rfl) (.base rfl) rfl (by intro h; first | (rw [h]; rfl) | (rw [hg, h]; rfl) | (rw [h, hg]; rfl) | simp_all)) ?_
              refine jg_nil ?_
              refine jn_keep [0, 3, 4, 18, 24, 213] [100] (.cons rfl (.cons rfl (.cons rfl (.cons rfl (.cons rfl (.cons rfl .nil)))))) (.cons rfl .nil) ?_
              refine jn_seq ?_
              refine j_cond rfl (fun h43 => ?_) (fun h43 => ?_)
              · have h43 : q < e ∧ e < b := by simpa using h43
                refine j_region ?_
                refine jg_adr _ rfl _ rfl rfl (op_move (.base rfl)) ?_
                refine jg_adr _ rfl _ rfl rfl (op_move (.base rfl)) ?_
                refine jg_adr _ rfl _ rfl rfl (op_move (.base rfl)) ?_
                refine jg_adr _ rfl _ rfl rfl (op_move (.base rfl)) ?_
                refine jg_adr _ rfl _ rfl rfl (op_move (.base rfl)) ?_
                refine jg_callT [] [0] (ih _ _ _ _ q e b rfl rfl rfl (by rw [q5, p7]; exact hsm) (by omega) h43.1 h43.2 (by rw [q5, p7]; omega) (by rw [q2, p4]; exact sorted_sub sA k1 (Nat.le_refl _)) (by rw [q3, p5]; exact sorted_sub sB k3 (Nat.le_refl _))) (.base rfl) rfl (by rw [q5, p7]) (by omega) (.cons (.base rfl) (.cons (.base rfl) (.cons (.base rfl) (.cons (.base rfl) .nil)))) rfl rfl rfl rfl (.both rfl .nil) ?_
                intro y3 r3
                refine jg_nil ?_
                refine jn_keep [0] [100] (.cons rfl .nil) (.cons rfl .nil) ?_
                exact jn_finT0 (s0 := 0) Try.results47 rfl rfl hpos (sym_join k1 k2 k3 k4 hb k5 r1 r2 r3 k6 k7)
              · have h43 : q = e ∨ e = b := by (simp at h43; omega)
                refine j_skip ?_
                exact jn_finT0 (s0 := 0) Try.results47 rfl rfl hpos (sym_join k1 k2 k3 k4 hb k5 r1 r2 (sym_triv (by omega) k4 h43) k6 k7)

theorem sym_c (f : TFact → TFact → Int) (hc : Cmp f) : ∀ (N : Nat), ∀ (xs : List TFact) (ia im ib : Int) (a m b : Nat), ia = a → im = m → ib = b → xs.length ≤ 1000 → b - a < N → a < m → m < b → b ≤ xs.length → Sorted (leF f) (seg xs a m) → Sorted (leF f) (seg xs m b) → CtT Try.prog 47 rFact xs (fun ys => Sym (leF f) xs a m b ys) [.raw (.int .i64 ia), .raw (.int .i64 im), .raw (.int .i64 ib), .tv (rFun2 Try.prog rFact rFact (rInt .i64) (fun _ _ => True)) f] (.raw (.tuple #[])) := by
  intro N
  induction N with
  | zero => intro xs ia im ib a m b _ _ _ _ h; omega
  | succ N ih =>
    intro xs ia im ib a m b e1 e2 e3 h1 h2 h3 h4 h5 h6 h7
    subst e1 e2 e3
    exact sym_step f hc N ih xs a m b h1 (by omega) h3 h4 h5 h6 h7

end Go.Proofs.Ytfamnoalgjkjhaa
