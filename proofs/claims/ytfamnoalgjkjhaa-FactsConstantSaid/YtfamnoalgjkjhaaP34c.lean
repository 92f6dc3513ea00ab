import Derived.Test.YtfamnoalgjkjhaaP34b
import Derived.Test.YtfamnoalgjkjhaaFacts
import Derived.Test.YtfamnoalgjkjhaaEngR
import Derived.Test.YtfamnoalgjkjhaaM4
namespace Go.Proofs.Ytfamnoalgjkjhaa
open Go.Eng
set_option maxRecDepth 100000
set_option maxHeartbeats 4000000
set_option linter.unusedVariables false
set_option linter.unusedSimpArgs false

theorem swap_ok (f : TFact → TFact → Int) (xs : List TFact) (a b n : Nat) (hab : a + n ≤ b) (hb : b + n ≤ xs.length) (hpos : 0 < xs.length) : CtT Try.prog 65 rFact xs (fun ys => Swp xs a b n ys) [.raw (.int .i64 ((a : Nat) : Int)), .raw (.int .i64 ((b : Nat) : Int)), .raw (.int .i64 ((n : Nat) : Int)), .tv (rFun2 Try.prog rFact rFact (rInt .i64) (fun _ _ => True)) f] (.raw (.tuple #[])) := by
  refine ctT_intro Try.func65 rfl rfl rfl rfl rfl ?_
  intro w0 ok0 b0 o0 cap0 hmax
  unfold maxLen at hmax
  refine j_seq ?_
  refine j_region ?_
  refine jg_adr _ rfl _ rfl rfl (op_assign (.base rfl)) ?_
  refine jg_nil ?_
  refine jn_keep [0, 1, 2, 3, 10] [100] (.cons rfl (.cons rfl (.cons rfl (.cons rfl (.cons rfl .nil))))) (.cons rfl .nil) ?_
  refine jn_seq (j_block ?_)
  refine j_loopp (ι := (List TFact × Nat)) (fun (ys, k) => ⟨[(0, .both (.own 100 rFact.n 0 xs.length) (.slice (some ⟨b0, o0, none⟩) xs.length cap0)), (1, .raw (.int .i64 ((a : Nat) : Int))), (2, .raw (.int .i64 ((b : Nat) : Int))), (3, .raw (.int .i64 ((n : Nat) : Int))), (10, .raw (.int .i64 ((k : Nat))))], [(100, ⟨rFact, ys⟩)]⟩) (fun (ys, k) => k ≤ n ∧ Swp xs a b k ys) (fun (ys, k) => n - k) (xs, 0) (⟨by omega, swp_zero _ _ _⟩) (fun a w hi => (Sub.inv ⟨(by repeat (first | exact SubS_nil | refine SubS_cons rfl (by first | rfl | (simp; done) | assumption) ?_)), (by repeat (first | exact SubH_nil | refine SubH_cons rfl (by first | rfl | (simp; done) | assumption) ?_))⟩ hi)) ?_
  rintro ⟨ys, k⟩ ⟨hk, hs⟩
  have hyl : ys.length = xs.length := hs.1
  refine j_seq (j_seq ?_)
  refine j_region ?_
  refine jg_adr _ rfl _ rfl rfl (op_move (.base rfl)) ?_
  refine jg_adr _ rfl _ rfl rfl (op_move (.base rfl)) ?_
  refine jg_adr _ rfl _ rfl rfl (op_lss (.base rfl) (.base rfl)) ?_
  refine jg_nil ?_
  refine jn_keep [0, 1, 2, 3, 10, 13] [100] (.cons rfl (.cons rfl (.cons rfl (.cons rfl (.cons rfl (.cons rfl .nil)))))) (.cons rfl .nil) ?_
  refine jn_seq ?_
  refine j_cond rfl (fun h1 => ?_) (fun h1 => ?_)
  · have h1 : k < n := by simp at h1; omega
    refine j_skip (jn_seq (j_seq (j_block ?_)))
    refine j_drawE mo (by kernel_rfl) (
      AE.cons _ _ _ rfl (gh_move rfl (.base rfl)) (
      AE.cons _ _ _ rfl (gh_ga [] (ga_adr rfl rfl rfl (op_move (.base rfl))) (by kernel_rfl)) (
      AE.cons _ _ _ rfl (gh_ga [] (ga_adr rfl rfl rfl (op_move (.base rfl))) (by kernel_rfl)) (
      AE.cons _ _ _ rfl (gh_ga [] (ga_adr rfl rfl rfl (op_add (.base rfl) (.base rfl) (w64 (by omega)))) (by kernel_rfl)) (
      AE.cons _ _ _ rfl (gh_move rfl (.base rfl)) (
      AE.cons _ _ _ rfl (gh_ga [] (ga_adr rfl rfl rfl (op_move (.base rfl))) (by kernel_rfl)) (
      AE.cons _ _ _ rfl (gh_ga [] (ga_adr rfl rfl rfl (op_move (.base rfl))) (by kernel_rfl)) (
      AE.cons _ _ _ rfl (gh_ga [] (ga_adr rfl rfl rfl (op_add (.base rfl) (.base rfl) (w64 (by omega)))) (by kernel_rfl)) (
      AE.cons _ _ _ rfl (gh_move rfl (.base rfl)) (
      AE.cons _ _ _ rfl (gh_ga [] (ga_adr rfl rfl rfl (op_move (.base rfl))) (by kernel_rfl)) (
      AE.cons _ _ _ rfl (gh_ga [] (ga_adr rfl rfl rfl (op_move (.base rfl))) (by kernel_rfl)) (
      AE.cons _ _ _ rfl (gh_ga [] (ga_adr rfl rfl rfl (op_add (.base rfl) (.base rfl) (w64 (by omega)))) (by kernel_rfl)) (
      AE.cons _ _ _ rfl (gh_oindex rfl Try.underlying22 ty45 (.b1 rfl) (.base rfl) (show ((b : Int) + (k : Int)) = ((b + k : Nat) : Int) from by omega) (by first | omega | (simp; done) | (simp; omega))) (
      AE.cons _ _ _ rfl (gh_ga [100] (ga_adr rfl rfl rfl (op_oload ty45 (.base rfl) rfl (List.getElem?_eq_getElem (by first | omega | (simp; done) | (simp; omega))) (Lens.id _))) (by kernel_rfl)) (
      AE.cons _ _ _ rfl (gh_move rfl (.base rfl)) (
      AE.cons _ _ _ rfl (gh_ga [] (ga_adr rfl rfl rfl (op_move (.base rfl))) (by kernel_rfl)) (
      AE.cons _ _ _ rfl (gh_ga [] (ga_adr rfl rfl rfl (op_move (.base rfl))) (by kernel_rfl)) (
      AE.cons _ _ _ rfl (gh_ga [] (ga_adr rfl rfl rfl (op_add (.base rfl) (.base rfl) (w64 (by omega)))) (by kernel_rfl)) (
      AE.cons _ _ _ rfl (gh_oindex rfl Try.underlying22 ty45 (.b1 rfl) (.base rfl) (show ((a : Int) + (k : Int)) = ((a + k : Nat) : Int) from by omega) (by first | omega | (simp; done) | (simp; omega))) (
      AE.cons _ _ _ rfl (gh_ga [100] (ga_adr rfl rfl rfl (op_oload ty45 (.base rfl) rfl (List.getElem?_eq_getElem (by first | omega | (simp; done) | (simp; omega))) (Lens.id _))) (by kernel_rfl)) (
      AE.cons _ _ _ rfl (gh_oindex rfl Try.underlying22 ty45 (.b1 rfl) (.base rfl) (show ((a : Int) + (k : Int)) = ((a + k : Nat) : Int) from by omega) (by first | omega | (simp; done) | (simp; omega))) (
      AE.cons _ _ _ rfl (gh_store ty45 (.base rfl) rfl (List.getElem?_eq_getElem (by first | omega | (simp; done) | (simp; omega))) (Lens.id _) (.tv (.base rfl))) (
      AE.cons _ _ _ rfl (gh_oindex rfl Try.underlying22 ty45 (.b1 rfl) (.base rfl) (show ((b : Int) + (k : Int)) = ((b + k : Nat) : Int) from by omega) (by first | omega | (simp; done) | (simp; omega))) (
      AE.cons _ _ _ rfl (gh_store ty45 (.base rfl) rfl (List.getElem?_eq_getElem (by first | omega | (simp; done) | (simp; omega))) (Lens.id _) (.tv (.base rfl))) (
      AE.nil))))))))))))))))))))))))) (by kernel_rfl) ?_
    refine jn_keep [0, 1, 2, 3, 10] [100] (.cons rfl (.cons rfl (.cons rfl (.cons rfl (.cons rfl .nil))))) (.cons rfl .nil) ?_
    refine jn_blk (jn_seq ?_)
    refine j_region ?_
    refine jg_adr _ rfl _ rfl rfl (op_move (.base rfl)) ?_
    refine jg_adr _ rfl _ rfl rfl (op_add (.base rfl) (.base rfl) (w64 (by omega))) ?_
    refine jg_adr _ rfl _ rfl rfl (op_assign (.base rfl)) ?_
    refine jg_nil ?_
    refine jn_keep [0, 1, 2, 3, 10] [100] (.cons rfl (.cons rfl (.cons rfl (.cons rfl (.cons rfl .nil))))) (.cons rfl .nil) ?_
    exact jn_loop (fun a w hi => ⟨(_, k + 1), (by first | omega | (simp; omega)), (⟨by omega, swp_succ hs (by omega) (by omega) (by omega)⟩), (Sub.inv ⟨(by repeat (first | exact SubS_nil | refine SubS_cons rfl (by first | rfl | (simp; done) | assumption) ?_)), (by repeat (first | exact SubH_nil | refine SubH_cons rfl (by first | rfl | (simp; done) | assumption) ?_))⟩ hi)⟩)
  · have h1 : k = n := by simp at h1; omega
    refine j_exit (je_seq (je_loop (je_blk ?_)))
    subst h1; exact jn_finT0 (s0 := 0) Try.results65 rfl rfl hpos hs

theorem swap_c (f : TFact → TFact → Int) (xs : List TFact) {ia ib i_n : Int} (a b n : Nat) (e1 : ia = a) (e2 : ib = b) (e3 : i_n = n) (hab : a + n ≤ b) (hb : b + n ≤ xs.length) (hpos : 0 < xs.length) : CtT Try.prog 65 rFact xs (fun ys => Swp xs a b n ys) [.raw (.int .i64 ia), .raw (.int .i64 ib), .raw (.int .i64 i_n), .tv (rFun2 Try.prog rFact rFact (rInt .i64) (fun _ _ => True)) f] (.raw (.tuple #[])) := by
  subst e1 e2 e3; exact swap_ok f xs a b n hab hb hpos

theorem rot_ok (f : TFact → TFact → Int) (xs : List TFact) (a m b : Nat) (ham : a < m) (hmb : m < b) (hb : b ≤ xs.length) (hpos : 0 < xs.length) : CtT Try.prog 59 rFact xs (fun ys => ys = xs.take a ++ seg xs m b ++ seg xs a m ++ xs.drop b) [.raw (.int .i64 ((a : Nat) : Int)), .raw (.int .i64 ((m : Nat) : Int)), .raw (.int .i64 ((b : Nat) : Int)), .tv (rFun2 Try.prog rFact rFact (rInt .i64) (fun _ _ => True)) f] (.raw (.tuple #[])) := by
  refine ctT_intro Try.func59 rfl rfl rfl rfl rfl ?_
  intro w0 ok0 b0 o0 cap0 hmax
  unfold maxLen at hmax
  refine j_seq ?_
  refine j_region ?_
  refine jg_adr _ rfl _ rfl rfl (op_move (.base rfl)) ?_
  refine jg_adr _ rfl _ rfl rfl (op_move (.base rfl)) ?_
  refine jg_adr _ rfl _ rfl rfl (op_sub (.base rfl) (.base rfl) (w64 (by omega))) ?_
  refine jg_adr _ rfl _ rfl rfl (op_assign (.base rfl)) ?_
  refine jg_nil ?_
  refine jn_keep [0, 2, 3, 4, 10] [100] (.cons rfl (.cons rfl (.cons rfl (.cons rfl (.cons rfl .nil))))) (.cons rfl .nil) ?_
  refine jn_seq (j_seq ?_)
  refine j_region ?_
  refine jg_adr _ rfl _ rfl rfl (op_move (.base rfl)) ?_
  refine jg_adr _ rfl _ rfl rfl (op_move (.base rfl)) ?_
  refine jg_adr _ rfl _ rfl rfl (op_sub (.base rfl) (.base rfl) (w64 (by omega))) ?_
  refine jg_adr _ rfl _ rfl rfl (op_assign (.base rfl)) ?_
  refine jg_nil ?_
  refine jn_keep [0, 2, 4, 10, 11] [100] (.cons rfl (.cons rfl (.cons rfl (.cons rfl (.cons rfl .nil))))) (.cons rfl .nil) ?_
  refine jn_seq (j_seq (j_block ?_))
  refine j_loopp (ι := (List TFact × Int × Int)) (fun (ys, i, j) => ⟨[(0, .both (.own 100 rFact.n 0 xs.length) (.slice (some ⟨b0, o0, none⟩) xs.length cap0)), (2, .raw (.int .i64 ((m : Nat) : Int))), (4, .tv (rFun2 Try.prog rFact rFact (rInt .i64) (fun _ _ => True)) f), (10, .raw (.int .i64 (i))), (11, .raw (.int .i64 (j)))], [(100, ⟨rFact, ys⟩)]⟩) (fun (ys, i, j) => Rot xs a m b ys i j) (fun (ys, i, j) => (i + j).toNat) (xs, (m : Int) - (a : Int), (b : Int) - (m : Int)) (rot_start ham hmb hb) (fun a w hi => (Sub.inv ⟨(by repeat (first | exact SubS_nil | refine SubS_cons rfl (by first | rfl | (simp; done) | assumption) ?_)), (by repeat (first | exact SubH_nil | refine SubH_cons rfl (by first | rfl | (simp; done) | assumption) ?_))⟩ hi)) ?_
  rintro ⟨ys, i, j⟩ hr
  obtain ⟨hi0, hj0, him, hjb, hyl⟩ := rot_pos hr hb
  refine j_seq (j_seq ?_)
  refine j_region ?_
  refine jg_adr _ rfl _ rfl rfl (op_move (.base rfl)) ?_
  refine jg_adr _ rfl _ rfl rfl (op_move (.base rfl)) ?_
  refine jg_adr _ rfl _ rfl rfl (op_neq (.base rfl) (.base rfl)) ?_
  refine jg_nil ?_
  refine jn_keep [0, 2, 4, 10, 11, 20] [100] (.cons rfl (.cons rfl (.cons rfl (.cons rfl (.cons rfl (.cons rfl .nil)))))) (.cons rfl .nil) ?_
  refine jn_seq ?_
  refine j_cond rfl (fun h2 => ?_) (fun h2 => ?_)
  · have h2 : i ≠ j := by simpa using h2
    refine j_skip (jn_seq (j_block (j_seq ?_)))
    refine j_region ?_
    refine jg_adr _ rfl _ rfl rfl (op_move (.base rfl)) ?_
    refine jg_adr _ rfl _ rfl rfl (op_move (.base rfl)) ?_
    refine jg_adr _ rfl _ rfl rfl (op_gtr (.base rfl) (.base rfl)) ?_
    refine jg_nil ?_
    refine jn_keep [0, 2, 4, 10, 11, 23] [100] (.cons rfl (.cons rfl (.cons rfl (.cons rfl (.cons rfl (.cons rfl .nil)))))) (.cons rfl .nil) ?_
    refine jn_seq ?_
    refine j_cond rfl (fun h3 => ?_) (fun h3 => ?_)
    · have h3 : j < i := by simpa using h3
      refine j_seq ?_
      refine j_region ?_
      refine jg_adr _ rfl _ rfl rfl (op_move (.base rfl)) ?_
      refine jg_adr _ rfl _ rfl rfl (op_move (.base rfl)) ?_
      refine jg_adr _ rfl _ rfl rfl (op_move (.base rfl)) ?_
      refine jg_adr _ rfl _ rfl rfl (op_sub (.base rfl) (.base rfl) (w64 (by omega))) ?_
      refine jg_adr _ rfl _ rfl rfl (op_move (.base rfl)) ?_
      refine jg_adr _ rfl _ rfl rfl (op_move (.base rfl)) ?_
      refine jg_adr _ rfl _ rfl rfl (op_move (.base rfl)) ?_
      refine jg_callT [] [0, 2, 4, 10, 11] (swap_c f ys ((m : Int) - i).toNat m j.toNat (by omega) (by omega) (by omega) (by omega) (by omega) (by omega)) (.base rfl) rfl (by first | rfl | omega | (simp; done) | (simp; omega)) (by omega) (.cons (.base rfl) (.cons (.base rfl) (.cons (.base rfl) (.cons (.base rfl) .nil)))) rfl rfl rfl rfl (.both rfl (.free rfl rfl (.free rfl rfl (.free rfl rfl (.free rfl rfl .nil))))) ?_
      intro ys2 hs2
      have h2l : ys2.length = xs.length := hs2.1.trans hyl
      have hr2 := rot_gt hr hb h3 hs2
      refine jg_nil ?_
      refine jn_keep [0, 2, 4, 10, 11] [100] (.cons rfl (.cons rfl (.cons rfl (.cons rfl (.cons rfl .nil))))) (.cons rfl .nil) ?_
      refine jn_seq ?_
      refine j_region ?_
      refine jg_adr _ rfl _ rfl rfl (op_move (.base rfl)) ?_
      refine jg_adr _ rfl _ rfl rfl (op_move (.base rfl)) ?_
      refine jg_adr _ rfl _ rfl rfl (op_sub (.base rfl) (.base rfl) (w64 (by omega))) ?_
      refine jg_adr _ rfl _ rfl rfl (op_assign (.base rfl)) ?_
      refine jg_nil ?_
      refine jn_keep [0, 2, 4, 10, 11] [100] (.cons rfl (.cons rfl (.cons rfl (.cons rfl (.cons rfl .nil))))) (.cons rfl .nil) ?_
      refine jn_blk ?_
      first | exact jn_loop (fun a w hi => ⟨(ys2, i - j, j), (by first | omega | (simp; omega)), (hr2), (Sub.inv ⟨(by repeat (first | exact SubS_nil | refine SubS_cons rfl (by first | rfl | (simp; done) | assumption) ?_)), (by repeat (first | exact SubH_nil | refine SubH_cons rfl (by first | rfl | (simp; done) | assumption) ?_))⟩ hi)⟩) | exact jn_loop (fun a w hi => ⟨(ys2, i, j - i), (by first | omega | (simp; omega)), (hr2), (Sub.inv ⟨(by repeat (first | exact SubS_nil | refine SubS_cons rfl (by first | rfl | (simp; done) | assumption) ?_)), (by repeat (first | exact SubH_nil | refine SubH_cons rfl (by first | rfl | (simp; done) | assumption) ?_))⟩ hi)⟩)
    · have h3 : i < j := by simp at h3; omega
      refine j_seq ?_
      refine j_region ?_
      refine jg_adr _ rfl _ rfl rfl (op_move (.base rfl)) ?_
      refine jg_adr _ rfl _ rfl rfl (op_move (.base rfl)) ?_
      refine jg_adr _ rfl _ rfl rfl (op_move (.base rfl)) ?_
      refine jg_adr _ rfl _ rfl rfl (op_sub (.base rfl) (.base rfl) (w64 (by omega))) ?_
      refine jg_adr _ rfl _ rfl rfl (op_move (.base rfl)) ?_
      refine jg_adr _ rfl _ rfl rfl (op_move (.base rfl)) ?_
      refine jg_adr _ rfl _ rfl rfl (op_add (.base rfl) (.base rfl) (w64 (by omega))) ?_
      refine jg_adr _ rfl _ rfl rfl (op_move (.base rfl)) ?_
      refine jg_adr _ rfl _ rfl rfl (op_sub (.base rfl) (.base rfl) (w64 (by omega))) ?_
      refine jg_adr _ rfl _ rfl rfl (op_move (.base rfl)) ?_
      refine jg_adr _ rfl _ rfl rfl (op_move (.base rfl)) ?_
      refine jg_callT [] [0, 2, 4, 10, 11] (swap_c f ys ((m : Int) - i).toNat ((m : Int) + j - i).toNat i.toNat (by omega) (by omega) (by omega) (by omega) (by omega) (by omega)) (.base rfl) rfl (by first | rfl | omega | (simp; done) | (simp; omega)) (by omega) (.cons (.base rfl) (.cons (.base rfl) (.cons (.base rfl) (.cons (.base rfl) .nil)))) rfl rfl rfl rfl (.both rfl (.free rfl rfl (.free rfl rfl (.free rfl rfl (.free rfl rfl .nil))))) ?_
      intro ys2 hs2
      have h2l : ys2.length = xs.length := hs2.1.trans hyl
      have hr2 := rot_lt hr hb h3 hs2
      refine jg_nil ?_
      refine jn_keep [0, 2, 4, 10, 11] [100] (.cons rfl (.cons rfl (.cons rfl (.cons rfl (.cons rfl .nil))))) (.cons rfl .nil) ?_
      refine jn_seq ?_
      refine j_region ?_
      refine jg_adr _ rfl _ rfl rfl (op_move (.base rfl)) ?_
      refine jg_adr _ rfl _ rfl rfl (op_move (.base rfl)) ?_
      refine jg_adr _ rfl _ rfl rfl (op_sub (.base rfl) (.base rfl) (w64 (by omega))) ?_
      refine jg_adr _ rfl _ rfl rfl (op_assign (.base rfl)) ?_
      refine jg_nil ?_
      refine jn_keep [0, 2, 4, 10, 11] [100] (.cons rfl (.cons rfl (.cons rfl (.cons rfl (.cons rfl .nil))))) (.cons rfl .nil) ?_
      refine jn_blk ?_
      first | exact jn_loop (fun a w hi => ⟨(ys2, i - j, j), (by first | omega | (simp; omega)), (hr2), (Sub.inv ⟨(by repeat (first | exact SubS_nil | refine SubS_cons rfl (by first | rfl | (simp; done) | assumption) ?_)), (by repeat (first | exact SubH_nil | refine SubH_cons rfl (by first | rfl | (simp; done) | assumption) ?_))⟩ hi)⟩) | exact jn_loop (fun a w hi => ⟨(ys2, i, j - i), (by first | omega | (simp; omega)), (hr2), (Sub.inv ⟨(by repeat (first | exact SubS_nil | refine SubS_cons rfl (by first | rfl | (simp; done) | assumption) ?_)), (by repeat (first | exact SubH_nil | refine SubH_cons rfl (by first | rfl | (simp; done) | assumption) ?_))⟩ hi)⟩)
  · have h2 : i = j := by simpa using h2
    refine j_exit (je_seq (je_loop (je_blk (jn_seq ?_))))
    refine j_region ?_
    refine jg_adr _ rfl _ rfl rfl (op_move (.base rfl)) ?_
    refine jg_adr _ rfl _ rfl rfl (op_move (.base rfl)) ?_
    refine jg_adr _ rfl _ rfl rfl (op_move (.base rfl)) ?_
    refine jg_adr _ rfl _ rfl rfl (op_sub (.base rfl) (.base rfl) (w64 (by omega))) ?_
    refine jg_adr _ rfl _ rfl rfl (op_move (.base rfl)) ?_
    refine jg_adr _ rfl _ rfl rfl (op_move (.base rfl)) ?_
    refine jg_adr _ rfl _ rfl rfl (op_move (.base rfl)) ?_
    refine jg_callT [] [0] (swap_c f ys ((m : Int) - i).toNat m i.toNat (by omega) (by omega) (by omega) (by omega) (by omega) (by omega)) (.base rfl) rfl (by first | rfl | omega | (simp; done) | (simp; omega)) (by omega) (.cons (.base rfl) (.cons (.base rfl) (.cons (.base rfl) (.cons (.base rfl) .nil)))) rfl rfl rfl rfl (.both rfl .nil) ?_
    intro ys2 hs2
    refine jg_nil ?_
    refine jn_keep [0] [100] (.cons rfl .nil) (.cons rfl .nil) ?_
    exact jn_finT0 (s0 := 0) Try.results59 rfl rfl hpos (rot_end hr hb h2 hs2)

theorem rot_c (f : TFact → TFact → Int) (xs : List TFact) {ia im ib : Int} (a m b : Nat) (e1 : ia = a) (e2 : im = m) (e3 : ib = b) (ham : a < m) (hmb : m < b) (hb : b ≤ xs.length) : CtT Try.prog 59 rFact xs (fun ys => ys = xs.take a ++ seg xs m b ++ seg xs a m ++ xs.drop b) [.raw (.int .i64 ia), .raw (.int .i64 im), .raw (.int .i64 ib), .tv (rFun2 Try.prog rFact rFact (rInt .i64) (fun _ _ => True)) f] (.raw (.tuple #[])) := by
  subst e1 e2 e3; exact rot_ok f xs a m b ham hmb hb (by omega)


/-- what the comparer says -/
def leF (f : TFact → TFact → Int) (x y : TFact) : Bool := !decide (f y x < 0)
structure Cmp (f : TFact → TFact → Int) : Prop where
  tr : ∀ a b c, leF f a b = true → leF f b c = true → leF f a c = true
  to : ∀ a b, (leF f a b || leF f b a) = true

theorem isort_ok (f : TFact → TFact → Int) (hc : Cmp f) (xs : List TFact) (hsm : xs.length ≤ 1000) (a b : Nat) (hab : a ≤ b) (hb : b ≤ xs.length) (hpos : 0 < xs.length) : CtT Try.prog 46 rFact xs (fun ys => InsO (leF f) xs a b ys) [.raw (.int .i64 ((a : Nat) : Int)), .raw (.int .i64 ((b : Nat) : Int)), .tv (rFun2 Try.prog rFact rFact (rInt .i64) (fun _ _ => True)) f] (.raw (.tuple #[])) := by
  refine ctT_intro Try.func46 rfl rfl rfl rfl rfl ?_
  intro w0 ok0 b0 o0 cap0 hmax
  unfold maxLen at hmax
  refine j_seq ?_
  refine j_region ?_
  refine jg_adr _ rfl _ rfl rfl (op_move (.base rfl)) ?_
  refine jg_adr _ rfl _ rfl rfl (op_add (.base rfl) (.base rfl) (w64 (by omega))) ?_
  refine jg_adr _ rfl _ rfl rfl (op_assign (.base rfl)) ?_
  refine jg_nil ?_
  refine jn_keep [0, 1, 2, 3, 8] [100] (.cons rfl (.cons rfl (.cons rfl (.cons rfl (.cons rfl .nil))))) (.cons rfl .nil) ?_
  refine jn_seq (j_block ?_)
  refine j_loopp (ι := (List TFact × Nat)) (fun (ys, i) => ⟨[(0, .both (.own 100 rFact.n 0 xs.length) (.slice (some ⟨b0, o0, none⟩) xs.length cap0)), (1, .raw (.int .i64 ((a : Nat) : Int))), (2, .raw (.int .i64 ((b : Nat) : Int))), (3, .tv (rFun2 Try.prog rFact rFact (rInt .i64) (fun _ _ => True)) f), (8, .raw (.int .i64 ((i : Nat) : Int)))], [(100, ⟨rFact, ys⟩)]⟩) (fun (ys, i) => InsO (leF f) xs a i ys ∧ a + 1 ≤ i ∧ (i ≤ b ∨ i = a + 1)) (fun (ys, i) => b - i) (xs, a + 1) (⟨inso_start xs a (by omega), by omega, by omega⟩) (fun a w hi => (Sub.inv ⟨(by repeat (first | exact SubS_nil | refine SubS_cons rfl (by first | rfl | (simp; done) | assumption) ?_)), (by repeat (first | exact SubH_nil | refine SubH_cons rfl (by first | rfl | (simp; done) | assumption) ?_))⟩ hi)) ?_
  rintro ⟨ys, i⟩ hp
  refine j_seq (j_seq ?_)
  refine j_region ?_
  refine jg_adr _ rfl _ rfl rfl (op_move (.base rfl)) ?_
  refine jg_adr _ rfl _ rfl rfl (op_move (.base rfl)) ?_
  refine jg_adr _ rfl _ rfl rfl (op_lss (.base rfl) (.base rfl)) ?_
  refine jg_nil ?_
  refine jn_keep [0, 1, 2, 3, 8, 14] [100] (.cons rfl (.cons rfl (.cons rfl (.cons rfl (.cons rfl (.cons rfl .nil)))))) (.cons rfl .nil) ?_
  refine jn_seq ?_
  refine j_cond rfl (fun h1 => ?_) (fun h1 => ?_)
  · have h1 : i < b := by simp at h1; omega
    have hyl := inso_len hp.1 (by omega) (by omega)
    refine j_skip (jn_seq (j_seq (j_block (j_seq ?_))))
    refine j_region ?_
    refine jg_adr _ rfl _ rfl rfl (op_move (.base rfl)) ?_
    refine jg_adr _ rfl _ rfl rfl (op_assign (.base rfl)) ?_
    refine jg_nil ?_
    refine jn_keep [0, 1, 2, 3, 8, 9] [100] (.cons rfl (.cons rfl (.cons rfl (.cons rfl (.cons rfl (.cons rfl .nil)))))) (.cons rfl .nil) ?_
    refine jn_seq (j_block ?_)
    refine j_loopp (ι := (List TFact × Nat)) (fun (zs, j) => ⟨[(0, .both (.own 100 rFact.n 0 xs.length) (.slice (some ⟨b0, o0, none⟩) xs.length cap0)), (1, .raw (.int .i64 ((a : Nat) : Int))), (2, .raw (.int .i64 ((b : Nat) : Int))), (3, .tv (rFun2 Try.prog rFact rFact (rInt .i64) (fun _ _ => True)) f), (8, .raw (.int .i64 ((i : Nat) : Int))), (9, .raw (.int .i64 ((j : Nat) : Int)))], [(100, ⟨rFact, zs⟩)]⟩) (fun (zs, j) => Ins (leF f) xs a i zs j) (fun (zs, j) => j) (ys, i) (ins_start hp.1 (by omega) (by omega)) (fun a w hi => (Sub.inv ⟨(by repeat (first | exact SubS_nil | refine SubS_cons rfl (by first | rfl | (simp; done) | assumption) ?_)), (by repeat (first | exact SubH_nil | refine SubH_cons rfl (by first | rfl | (simp; done) | assumption) ?_))⟩ hi)) ?_
    rintro ⟨zs, j⟩ hq
    obtain ⟨hzl, haj, hji, hix⟩ := ins_len hq (by omega)
    refine j_seq (j_seq ?_)
    refine j_draw mo (by kernel_rfl) (
      AS.cons _ _ rfl (ga_adr rfl rfl rfl (op_move (.base rfl))) (
        AS.cons _ _ rfl (ga_adr rfl rfl rfl (op_move (.base rfl))) (
        AS.cons _ _ rfl (ga_adr rfl rfl rfl (op_gtr (.base rfl) (.base rfl))) (
        AS.cons _ _ rfl (ga_adr rfl rfl rfl (op_move (.base rfl))) (
        AS.cons _ _ rfl (ga_gd _ _ _ _ rfl rfl rfl rfl rfl (fun hg => op_move (.base rfl))) (
        AS.cons _ _ rfl (ga_gd _ _ _ _ rfl rfl rfl rfl rfl (fun hg => op_move (.b1 rfl))) (
        AS.cons _ _ rfl (ga_gd _ _ _ _ rfl rfl rfl rfl rfl (fun hg => op_move (.base rfl))) (
        AS.cons _ _ rfl (ga_gd _ _ _ _ rfl rfl rfl rfl rfl (fun hg => op_oindex Try.underlying22 ty45 (.gd rfl hg) (.gd rfl hg) rfl (by first | omega | (simp; done) | (simp; omega) | (simp at hg; omega)))) (
        AS.cons _ _ rfl (ga_gd _ _ _ _ rfl rfl rfl rfl rfl (fun hg => op_oload ty45 (.gd rfl hg) rfl (getD_some (z := ((0, (0, (0, ((0, (0, 0)), ((0, 0), 0))))) : TFact)) (by first | omega | (simp at hg; omega))) (Lens.id _))) (
        AS.cons _ _ rfl (ga_gd _ _ _ _ rfl rfl rfl rfl rfl (fun hg => op_move (.b1 rfl))) (
        AS.cons _ _ rfl (ga_gd _ _ _ _ rfl rfl rfl rfl rfl (fun hg => op_move (.base rfl))) (
        AS.cons _ _ rfl (ga_gd _ _ _ _ rfl rfl rfl rfl rfl (fun hg => op_sub (.gd rfl hg) (.base rfl) (w64 (by omega)))) (
        AS.cons _ _ rfl (ga_gd _ _ _ _ rfl rfl rfl rfl rfl (fun hg => op_oindex Try.underlying22 ty45 (.gd rfl hg) (.gd rfl hg) (show ((j : Int) - 1) = ((j - 1 : Nat) : Int) from by simp at hg; omega) (by first | omega | (simp; done) | (simp; omega) | (simp at hg; omega)))) (
        AS.cons _ _ rfl (ga_gd _ _ _ _ rfl rfl rfl rfl rfl (fun hg => op_oload ty45 (.gd rfl hg) rfl (getD_some (z := ((0, (0, (0, ((0, (0, 0)), ((0, 0), 0))))) : TFact)) (by first | omega | (simp at hg; omega))) (Lens.id _))) (
        AS.cons _ _ rfl (ga_gd _ _ _ _ rfl rfl rfl rfl rfl (fun hg => op_callf2 (.gd rfl hg) (.tv (.gd rfl hg)) (.tv (.gd rfl hg)) trivial)) (
        AS.cons _ _ rfl (ga_gd _ _ _ _ rfl rfl rfl rfl rfl (fun hg => op_lss (.gd rfl hg) (.base rfl))) (
        AS.cons _ _ rfl (ga_adr rfl rfl rfl (op_pick_and (.base rfl) (.base rfl) rfl (by intro h; first | (rw [h]; rfl) | (rw [hg, h]; rfl) | (rw [h, hg]; rfl) | simp_all))) (
        AS.nil)))))))))))))))))) ?_
    refine jn_keep [0, 1, 2, 3, 8, 9, 34] [100] (.cons rfl (.cons rfl (.cons rfl (.cons rfl (.cons rfl (.cons rfl (.cons rfl .nil))))))) (.cons rfl .nil) ?_
    refine jn_seq ?_
    refine j_cond rfl (fun h4 => ?_) (fun h4 => ?_)
    · have h4 : a < j ∧ leF f (zs.getD (j - 1) (0, (0, (0, ((0, (0, 0)), ((0, 0), 0)))))) (zs.getD j (0, (0, (0, ((0, (0, 0)), ((0, 0), 0)))))) = false := by simpa [leF] using h4
      refine j_skip (jn_seq (j_seq (j_block ?_)))
      refine j_drawE mo (by kernel_rfl) (
        AE.cons _ _ _ rfl (gh_move rfl (.base rfl)) (
        AE.cons _ _ _ rfl (gh_ga [] (ga_adr rfl rfl rfl (op_move (.base rfl))) (by kernel_rfl)) (
        AE.cons _ _ _ rfl (gh_move rfl (.base rfl)) (
        AE.cons _ _ _ rfl (gh_ga [] (ga_adr rfl rfl rfl (op_move (.base rfl))) (by kernel_rfl)) (
        AE.cons _ _ _ rfl (gh_ga [] (ga_adr rfl rfl rfl (op_sub (.base rfl) (.base rfl) (w64 (by omega)))) (by kernel_rfl)) (
        AE.cons _ _ _ rfl (gh_move rfl (.base rfl)) (
        AE.cons _ _ _ rfl (gh_ga [] (ga_adr rfl rfl rfl (op_move (.base rfl))) (by kernel_rfl)) (
        AE.cons _ _ _ rfl (gh_ga [] (ga_adr rfl rfl rfl (op_sub (.base rfl) (.base rfl) (w64 (by omega)))) (by kernel_rfl)) (
        AE.cons _ _ _ rfl (gh_oindex rfl Try.underlying22 ty45 (.b1 rfl) (.base rfl) (show ((j : Int) - 1) = ((j - 1 : Nat) : Int) from by omega) (by first | omega | (simp; done) | (simp; omega))) (
        AE.cons _ _ _ rfl (gh_ga [100] (ga_adr rfl rfl rfl (op_oload ty45 (.base rfl) rfl (List.getElem?_eq_getElem (by first | omega | (simp; done) | (simp; omega))) (Lens.id _))) (by kernel_rfl)) (
        AE.cons _ _ _ rfl (gh_move rfl (.base rfl)) (
        AE.cons _ _ _ rfl (gh_ga [] (ga_adr rfl rfl rfl (op_move (.base rfl))) (by kernel_rfl)) (
        AE.cons _ _ _ rfl (gh_oindex rfl Try.underlying22 ty45 (.b1 rfl) (.base rfl) rfl (by first | omega | (simp; done) | (simp; omega))) (
        AE.cons _ _ _ rfl (gh_ga [100] (ga_adr rfl rfl rfl (op_oload ty45 (.base rfl) rfl (List.getElem?_eq_getElem (by first | omega | (simp; done) | (simp; omega))) (Lens.id _))) (by kernel_rfl)) (
        AE.cons _ _ _ rfl (gh_oindex rfl Try.underlying22 ty45 (.b1 rfl) (.base rfl) rfl (by first | omega | (simp; done) | (simp; omega))) (
        AE.cons _ _ _ rfl (gh_store ty45 (.base rfl) rfl (List.getElem?_eq_getElem (by first | omega | (simp; done) | (simp; omega))) (Lens.id _) (.tv (.base rfl))) (
        AE.cons _ _ _ rfl (gh_oindex rfl Try.underlying22 ty45 (.b1 rfl) (.base rfl) (show ((j : Int) - 1) = ((j - 1 : Nat) : Int) from by omega) (by first | omega | (simp; done) | (simp; omega))) (
        AE.cons _ _ _ rfl (gh_store ty45 (.base rfl) rfl (List.getElem?_eq_getElem (by first | omega | (simp; done) | (simp; omega))) (Lens.id _) (.tv (.base rfl))) (
        AE.nil))))))))))))))))))) (by kernel_rfl) ?_
      refine jn_keep [0, 1, 2, 3, 8, 9] [100] (.cons rfl (.cons rfl (.cons rfl (.cons rfl (.cons rfl (.cons rfl .nil)))))) (.cons rfl .nil) ?_
      refine jn_blk (jn_seq ?_)
      have ej : ((j : Int) - 1) = ((j - 1 : Nat) : Int) := by omega
      refine j_region ?_
      refine jg_adr _ rfl _ rfl rfl (op_move (.base rfl)) ?_
      refine jg_adr _ rfl _ rfl rfl (op_sub (.base rfl) (.base rfl) (w64 (by omega))) ?_
      refine jg_adr _ rfl _ rfl rfl (op_assign (.base rfl)) ?_
      refine jg_nil ?_
      rw [ej]
      refine jn_keep [0, 1, 2, 3, 8, 9] [100] (.cons rfl (.cons rfl (.cons rfl (.cons rfl (.cons rfl (.cons rfl .nil)))))) (.cons rfl .nil) ?_
      exact jn_loop (fun a w hi => ⟨(_, j - 1), (by first | omega | (simp; omega)), ((by have e1 : zs.getD (j - 1) (0, (0, (0, ((0, (0, 0)), ((0, 0), 0))))) = zs[j - 1] := (by simp [show j - 1 < zs.length by omega]); have e2 : zs.getD j (0, (0, (0, ((0, (0, 0)), ((0, 0), 0))))) = zs[j] := (by simp [show j < zs.length by omega]); exact ins_step hq (by omega) h4.1 (by omega) (by omega) (by rw [← e1, ← e2]; exact h4.2))), (Sub.inv ⟨(by repeat (first | exact SubS_nil | refine SubS_cons rfl (by first | rfl | (simp; done) | assumption) ?_)), (by repeat (first | exact SubH_nil | refine SubH_cons rfl (by first | rfl | (simp; done) | assumption) ?_))⟩ hi)⟩)
    · have h4 : j = a ∨ leF f (zs.getD (j - 1) (0, (0, (0, ((0, (0, 0)), ((0, 0), 0)))))) (zs.getD j (0, (0, (0, ((0, (0, 0)), ((0, 0), 0)))))) = true := by (simp [leF] at h4 ⊢; omega)
      refine j_exit (je_seq (je_loop (je_blk (jn_blk (jn_seq ?_)))))
      refine j_region ?_
      refine jg_adr _ rfl _ rfl rfl (op_move (.base rfl)) ?_
      refine jg_adr _ rfl _ rfl rfl (op_add (.base rfl) (.base rfl) (w64 (by omega))) ?_
      refine jg_adr _ rfl _ rfl rfl (op_assign (.base rfl)) ?_
      refine jg_nil ?_
      refine jn_keep [0, 1, 2, 3, 8] [100] (.cons rfl (.cons rfl (.cons rfl (.cons rfl (.cons rfl .nil))))) (.cons rfl .nil) ?_
      exact jn_loop (fun a w hi => ⟨(zs, i + 1), (by first | omega | (simp; omega)), (⟨ins_end hc.tr hc.to hq (by omega) (h4.imp id (fun h => ⟨by omega, by omega, by have e1 : zs.getD (j - 1) (0, (0, (0, ((0, (0, 0)), ((0, 0), 0))))) = zs[j - 1] := (by simp [show j - 1 < zs.length by omega]); have e2 : zs.getD j (0, (0, (0, ((0, (0, 0)), ((0, 0), 0))))) = zs[j] := (by simp [show j < zs.length by omega]); rw [← e1, ← e2]; exact h⟩)), by omega, by omega⟩), (Sub.inv ⟨(by repeat (first | exact SubS_nil | refine SubS_cons rfl (by first | rfl | (simp; done) | assumption) ?_)), (by repeat (first | exact SubH_nil | refine SubH_cons rfl (by first | rfl | (simp; done) | assumption) ?_))⟩ hi)⟩)
  · have h1 : b ≤ i := by simp at h1; omega
    refine j_exit (je_seq (je_loop (je_blk ?_)))
    exact jn_finT0 (s0 := 0) Try.results46 rfl rfl hpos (inso_end hp.1 hb hab h1 (by omega))

end Go.Proofs.Ytfamnoalgjkjhaa
