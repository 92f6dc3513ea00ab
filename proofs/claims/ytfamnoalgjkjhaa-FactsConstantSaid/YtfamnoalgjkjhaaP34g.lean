import Derived.Test.YtfamnoalgjkjhaaP34e
import Derived.Test.YtfamnoalgjkjhaaP34f
namespace Go.Proofs.Ytfamnoalgjkjhaa
open Go.Eng
set_option maxRecDepth 100000
set_option maxHeartbeats 4000000
set_option linter.unusedVariables false
set_option linter.unusedSimpArgs false

theorem isort_c (f : TFact → TFact → Int) (hc : Cmp f) (xs : List TFact) {ia ib : Int} (a b : Nat) (e1 : ia = a) (e2 : ib = b) (hsm : xs.length ≤ 1000) (hab : a ≤ b) (hb : b ≤ xs.length) (hpos : 0 < xs.length) : CtT Try.prog 46 rFact xs (fun ys => InsO (leF f) xs a b ys) [.raw (.int .i64 ia), .raw (.int .i64 ib), .tv (rFun2 Try.prog rFact rFact (rInt .i64) (fun _ _ => True)) f] (.raw (.tuple #[])) := by
  subst e1 e2; exact isort_ok f hc xs hsm a b hab hb hpos

theorem stable_ok (f : TFact → TFact → Int) (hc : Cmp f) (xs : List TFact) (hsm : xs.length ≤ 1000) (hpos : 0 < xs.length) : CtT Try.prog 41 rFact xs (fun ys => ys = ssort (leF f) xs) [.raw (.int .i64 ((xs.length : Nat) : Int)), .tv (rFun2 Try.prog rFact rFact (rInt .i64) (fun _ _ => True)) f] (.raw (.tuple #[])) := by
  refine ctT_intro Try.func41 rfl rfl rfl rfl rfl ?_
  intro w0 ok0 b0 o0 cap0 hmax
  unfold maxLen at hmax
  refine j_seq ?_
  refine j_region ?_
  refine jg_adr _ rfl _ rfl rfl (op_assign (.base rfl)) ?_
  refine jg_nil ?_
  refine jn_keep [0, 1, 2, 6] [100] (.cons rfl (.cons rfl (.cons rfl (.cons rfl .nil)))) (.cons rfl .nil) ?_
  refine jn_seq (j_seq ?_)
  refine j_region ?_
  refine jg_adr _ rfl _ rfl rfl (op_move (.base rfl)) ?_
  refine jg_adr _ rfl _ rfl rfl (op_assign (.base rfl)) ?_
  refine jg_adr _ rfl _ rfl rfl (op_assign (.base rfl)) ?_
  refine jg_nil ?_
  refine jn_keep [0, 1, 2, 6, 7, 8] [100] (.cons rfl (.cons rfl (.cons rfl (.cons rfl (.cons rfl (.cons rfl .nil)))))) (.cons rfl .nil) ?_
  refine jn_seq (j_seq (j_block ?_))
  refine j_loopp (ι := (List TFact × Nat)) (fun (ys, u) => ⟨[(0, .both (.own 100 rFact.n 0 xs.length) (.slice (some ⟨b0, o0, none⟩) xs.length cap0)), (1, .raw (.int .i64 ((xs.length : Nat) : Int))), (2, .tv (rFun2 Try.prog rFact rFact (rInt .i64) (fun _ _ => True)) f), (6, .raw (.int .i64 20)), (7, .raw (.int .i64 ((u : Nat) : Int))), (8, .raw (.int .i64 (((u + 20) : Nat) : Int)))], [(100, ⟨rFact, ys⟩)]⟩) (fun (ys, u) => P1 (leF f) 20 xs ys u) (fun (ys, u) => xs.length - u) (xs, 0) (p1_start xs 20) (fun a w hi => (Sub.inv ⟨(by repeat (first | exact SubS_nil | refine SubS_cons rfl (by first | rfl | (simp; done) | assumption) ?_)), (by repeat (first | exact SubH_nil | refine SubH_cons rfl (by first | rfl | (simp; done) | assumption) ?_))⟩ hi)) ?_
  rintro ⟨ys, u⟩ hp
  obtain ⟨hyl, hal⟩ := p1_len hp
  refine j_seq (j_seq ?_)
  refine j_region ?_
  refine jg_adr _ rfl _ rfl rfl (op_move (.base rfl)) ?_
  refine jg_adr _ rfl _ rfl rfl (op_move (.base rfl)) ?_
  refine jg_adr _ rfl _ rfl rfl (op_leq (.base rfl) (.base rfl)) ?_
  refine jg_nil ?_
  refine jn_keep [0, 1, 2, 6, 7, 8, 13] [100] (.cons rfl (.cons rfl (.cons rfl (.cons rfl (.cons rfl (.cons rfl (.cons rfl .nil))))))) (.cons rfl .nil) ?_
  refine jn_seq ?_
  refine j_cond rfl (fun h2 => ?_) (fun h2 => ?_)
  · have h2 : u + 20 ≤ xs.length := by simp at h2; omega
    refine j_skip (jn_seq (j_block (j_seq ?_)))
    refine j_region ?_
    refine jg_adr _ rfl _ rfl rfl (op_move (.base rfl)) ?_
    refine jg_adr _ rfl _ rfl rfl (op_move (.base rfl)) ?_
    refine jg_adr _ rfl _ rfl rfl (op_move (.base rfl)) ?_
    refine jg_adr _ rfl _ rfl rfl (op_move (.base rfl)) ?_
    refine jg_callT [] [0, 1, 2, 6, 8] (isort_c f hc ys u (u + 20) (by omega) (by omega) (by omega) (by omega) (by omega) (by omega)) (.base rfl) rfl (by omega) (by omega) (.cons (.base rfl) (.cons (.base rfl) (.cons (.base rfl) .nil))) rfl rfl rfl rfl (.both rfl (.free rfl rfl (.free rfl rfl (.free rfl rfl (.free rfl rfl .nil))))) ?_
    intro y2 hy2
    have hp2 := p1_step hp h2 hy2
    refine jg_nil ?_
    refine jn_keep [0, 1, 2, 6, 8] [100] (.cons rfl (.cons rfl (.cons rfl (.cons rfl (.cons rfl .nil))))) (.cons rfl .nil) ?_
    refine jn_seq (j_seq ?_)
    refine j_region ?_
    refine jg_adr _ rfl _ rfl rfl (op_move (.base rfl)) ?_
    refine jg_adr _ rfl _ rfl rfl (op_assign (.base rfl)) ?_
    refine jg_nil ?_
    refine jn_keep [0, 1, 2, 6, 7, 8] [100] (.cons rfl (.cons rfl (.cons rfl (.cons rfl (.cons rfl (.cons rfl .nil)))))) (.cons rfl .nil) ?_
    refine jn_seq ?_
    refine j_region ?_
    refine jg_adr _ rfl _ rfl rfl (op_move (.base rfl)) ?_
    refine jg_adr _ rfl _ rfl rfl (op_move (.base rfl)) ?_
    refine jg_adr _ rfl _ rfl rfl (op_add (.base rfl) (.base rfl) (w64 (by omega))) ?_
    refine jg_adr _ rfl _ rfl rfl (op_assign (.base rfl)) ?_
    refine jg_nil ?_
    refine jn_keep [0, 1, 2, 6, 7, 8] [100] (.cons rfl (.cons rfl (.cons rfl (.cons rfl (.cons rfl (.cons rfl .nil)))))) (.cons rfl .nil) ?_
    refine jn_blk ?_
    exact jn_loop (fun a w hi => ⟨(_, u + 20), (by first | omega | (simp; omega)), (hp2), (Sub.inv ⟨(by repeat (first | exact SubS_nil | refine SubS_cons rfl (by first | rfl | (simp; done) | assumption) ?_)), (by repeat (first | exact SubH_nil | refine SubH_cons rfl (by first | rfl | (simp; done) | assumption) ?_))⟩ hi)⟩)
  · have h2 : xs.length < u + 20 := by simp at h2; omega
    refine j_exit (je_seq (je_loop (je_blk (jn_seq (j_seq ?_)))))
    refine j_region ?_
    refine jg_adr _ rfl _ rfl rfl (op_move (.base rfl)) ?_
    refine jg_adr _ rfl _ rfl rfl (op_move (.base rfl)) ?_
    refine jg_adr _ rfl _ rfl rfl (op_move (.base rfl)) ?_
    refine jg_adr _ rfl _ rfl rfl (op_move (.base rfl)) ?_
    refine jg_callT [] [0, 1, 2, 6] (isort_c f hc ys u xs.length (by omega) (by omega) (by omega) (by omega) (by omega) (by omega)) (.base rfl) rfl (by omega) (by omega) (.cons (.base rfl) (.cons (.base rfl) (.cons (.base rfl) .nil))) rfl rfl rfl rfl (.both rfl (.free rfl rfl (.free rfl rfl (.free rfl rfl .nil)))) ?_
    intro y1 hy1
    have hp2 := p1_end hp h2 hy1
    refine jg_nil ?_
    refine jn_keep [0, 1, 2, 6] [100] (.cons rfl (.cons rfl (.cons rfl (.cons rfl .nil)))) (.cons rfl .nil) ?_
    refine jn_seq (j_block ?_)
    refine j_loopp (ι := (List TFact × Nat)) (fun (ys, bs) => ⟨[(0, .both (.own 100 rFact.n 0 xs.length) (.slice (some ⟨b0, o0, none⟩) xs.length cap0)), (1, .raw (.int .i64 ((xs.length : Nat) : Int))), (2, .tv (rFun2 Try.prog rFact rFact (rInt .i64) (fun _ _ => True)) f), (6, .raw (.int .i64 ((bs : Nat) : Int)))], [(100, ⟨rFact, ys⟩)]⟩) (fun (ys, bs) => P2 (leF f) bs xs ys ∧ 0 < bs) (fun (ys, bs) => xs.length - bs) (_, 20) (⟨hp2, by omega⟩) (fun a w hi => (Sub.inv ⟨(by repeat (first | exact SubS_nil | refine SubS_cons rfl (by first | rfl | (simp; done) | assumption) ?_)), (by repeat (first | exact SubH_nil | refine SubH_cons rfl (by first | rfl | (simp; done) | assumption) ?_))⟩ hi)) ?_
    rintro ⟨ys, bs⟩ ⟨hp, hbs⟩
    have hyl := p2_len hp
    refine j_seq (j_seq ?_)
    refine j_region ?_
    refine jg_adr _ rfl _ rfl rfl (op_move (.base rfl)) ?_
    refine jg_adr _ rfl _ rfl rfl (op_move (.base rfl)) ?_
    refine jg_adr _ rfl _ rfl rfl (op_lss (.base rfl) (.base rfl)) ?_
    refine jg_nil ?_
    refine jn_keep [0, 1, 2, 6, 30] [100] (.cons rfl (.cons rfl (.cons rfl (.cons rfl (.cons rfl .nil))))) (.cons rfl .nil) ?_
    refine jn_seq ?_
    refine j_cond rfl (fun h7 => ?_) (fun h7 => ?_)
    · have h7 : bs < xs.length := by simp at h7; omega
      refine j_skip (jn_seq (j_block (j_seq ?_)))
      refine j_region ?_
      refine jg_adr _ rfl _ rfl rfl (op_move (.base rfl)) ?_
      refine jg_adr _ rfl _ rfl rfl (op_mul (.base rfl) (.base rfl) (w64 (by omega))) ?_
      refine jg_adr _ rfl _ rfl rfl (op_assign (.base rfl)) ?_
      refine jg_adr _ rfl _ rfl rfl (op_assign (.base rfl)) ?_
      refine jg_nil ?_
      rw [show (2 * (bs : Int)) = ((0 + 2 * bs : Nat) : Int) from by omega]
      refine jn_keep [0, 1, 2, 6, 7, 8] [100] (.cons rfl (.cons rfl (.cons rfl (.cons rfl (.cons rfl (.cons rfl .nil)))))) (.cons rfl .nil) ?_
      refine jn_seq (j_seq (j_block ?_))
      refine j_loopp (ι := (List TFact × Nat)) (fun (zs, u) => ⟨[(0, .both (.own 100 rFact.n 0 xs.length) (.slice (some ⟨b0, o0, none⟩) xs.length cap0)), (1, .raw (.int .i64 ((xs.length : Nat) : Int))), (2, .tv (rFun2 Try.prog rFact rFact (rInt .i64) (fun _ _ => True)) f), (6, .raw (.int .i64 ((bs : Nat) : Int))), (7, .raw (.int .i64 ((u : Nat) : Int))), (8, .raw (.int .i64 (((u + 2 * bs) : Nat) : Int)))], [(100, ⟨rFact, zs⟩)]⟩) (fun (zs, u) => P3 (leF f) bs xs zs u) (fun (zs, u) => xs.length - u) (_, 0) (p3_start hp) (fun a w hi => (Sub.inv ⟨(by repeat (first | exact SubS_nil | refine SubS_cons rfl (by first | rfl | (simp; done) | assumption) ?_)), (by repeat (first | exact SubH_nil | refine SubH_cons rfl (by first | rfl | (simp; done) | assumption) ?_))⟩ hi)) ?_
      rintro ⟨zs, u⟩ hr
      obtain ⟨hzl, hal⟩ := p3_len hr
      refine j_seq (j_seq ?_)
      refine j_region ?_
      refine jg_adr _ rfl _ rfl rfl (op_move (.base rfl)) ?_
      refine jg_adr _ rfl _ rfl rfl (op_move (.base rfl)) ?_
      refine jg_adr _ rfl _ rfl rfl (op_leq (.base rfl) (.base rfl)) ?_
      refine jg_nil ?_
      refine jn_keep [0, 1, 2, 6, 7, 8, 35] [100] (.cons rfl (.cons rfl (.cons rfl (.cons rfl (.cons rfl (.cons rfl (.cons rfl .nil))))))) (.cons rfl .nil) ?_
      refine jn_seq ?_
      refine j_cond rfl (fun h9 => ?_) (fun h9 => ?_)
      · have h9 : u + 2 * bs ≤ xs.length := by simp at h9; omega
        obtain ⟨sA, sB, hst⟩ := p3_next hc.tr hc.to hr hbs h9
        refine j_skip (jn_seq (j_block (j_seq ?_)))
        refine j_region ?_
        refine jg_adr _ rfl _ rfl rfl (op_move (.base rfl)) ?_
        refine jg_adr _ rfl _ rfl rfl (op_move (.base rfl)) ?_
        refine jg_adr _ rfl _ rfl rfl (op_move (.base rfl)) ?_
        refine jg_adr _ rfl _ rfl rfl (op_move (.base rfl)) ?_
        refine jg_adr _ rfl _ rfl rfl (op_add (.base rfl) (.base rfl) (w64 (by omega))) ?_
        refine jg_adr _ rfl _ rfl rfl (op_move (.base rfl)) ?_
        refine jg_adr _ rfl _ rfl rfl (op_move (.base rfl)) ?_
        refine jg_callT [] [0, 1, 2, 6, 8] (sym_c f hc 3000 zs _ _ _ u (u + bs) (u + 2 * bs) rfl (by omega) rfl (by omega) (by omega) (by omega) (by omega) (by omega) sA sB) (.base rfl) rfl (by omega) (by omega) (.cons (.base rfl) (.cons (.base rfl) (.cons (.base rfl) (.cons (.base rfl) .nil)))) rfl rfl rfl rfl (.both rfl (.free rfl rfl (.free rfl rfl (.free rfl rfl (.free rfl rfl .nil))))) ?_
        intro z2 hz2
        have hr2 := hst _ hz2
        refine jg_nil ?_
        refine jn_keep [0, 1, 2, 6, 8] [100] (.cons rfl (.cons rfl (.cons rfl (.cons rfl (.cons rfl .nil))))) (.cons rfl .nil) ?_
        refine jn_seq (j_seq ?_)
        refine j_region ?_
        refine jg_adr _ rfl _ rfl rfl (op_move (.base rfl)) ?_
        refine jg_adr _ rfl _ rfl rfl (op_assign (.base rfl)) ?_
        refine jg_nil ?_
        refine jn_keep [0, 1, 2, 6, 7, 8] [100] (.cons rfl (.cons rfl (.cons rfl (.cons rfl (.cons rfl (.cons rfl .nil)))))) (.cons rfl .nil) ?_
        refine jn_seq ?_
        refine j_region ?_
        refine jg_adr _ rfl _ rfl rfl (op_move (.base rfl)) ?_
        refine jg_adr _ rfl _ rfl rfl (op_move (.base rfl)) ?_
        refine jg_adr _ rfl _ rfl rfl (op_mul (.base rfl) (.base rfl) (w64 (by omega))) ?_
        refine jg_adr _ rfl _ rfl rfl (op_add (.base rfl) (.base rfl) (w64 (by omega))) ?_
        refine jg_adr _ rfl _ rfl rfl (op_assign (.base rfl)) ?_
        refine jg_nil ?_
        rw [show (((u + 2 * bs : Nat) : Int) + 2 * (bs : Int)) = ((u + 2 * bs + 2 * bs : Nat) : Int) from by omega]
        refine jn_keep [0, 1, 2, 6, 7, 8] [100] (.cons rfl (.cons rfl (.cons rfl (.cons rfl (.cons rfl (.cons rfl .nil)))))) (.cons rfl .nil) ?_
        refine jn_blk ?_
        exact jn_loop (fun a w hi => ⟨(_, u + 2 * bs), (by first | omega | (simp; omega)), (hr2), (Sub.inv ⟨(by repeat (first | exact SubS_nil | refine SubS_cons rfl (by first | rfl | (simp; done) | assumption) ?_)), (by repeat (first | exact SubH_nil | refine SubH_cons rfl (by first | rfl | (simp; done) | assumption) ?_))⟩ hi)⟩)
      · have h9 : xs.length < u + 2 * bs := by simp at h9; omega
        refine j_exit (je_seq (je_loop (je_blk (jn_seq (j_seq (j_seq ?_))))))
        refine j_region ?_
        refine jg_adr _ rfl _ rfl rfl (op_move (.base rfl)) ?_
        refine jg_adr _ rfl _ rfl rfl (op_move (.base rfl)) ?_
        refine jg_adr _ rfl _ rfl rfl (op_add (.base rfl) (.base rfl) (w64 (by omega))) ?_
        refine jg_adr _ rfl _ rfl rfl (op_assign (.base rfl)) ?_
        refine jg_nil ?_
        refine jn_keep [0, 1, 2, 6, 7, 9] [100] (.cons rfl (.cons rfl (.cons rfl (.cons rfl (.cons rfl (.cons rfl .nil)))))) (.cons rfl .nil) ?_
        refine jn_seq (j_seq ?_)
        refine j_region ?_
        refine jg_adr _ rfl _ rfl rfl (op_move (.base rfl)) ?_
        refine jg_adr _ rfl _ rfl rfl (op_move (.base rfl)) ?_
        refine jg_adr _ rfl _ rfl rfl (op_lss (.base rfl) (.base rfl)) ?_
        refine jg_nil ?_
        refine jn_keep [0, 1, 2, 6, 7, 9, 54] [100] (.cons rfl (.cons rfl (.cons rfl (.cons rfl (.cons rfl (.cons rfl (.cons rfl .nil))))))) (.cons rfl .nil) ?_
        refine jn_seq ?_
        refine j_cond rfl (fun h14 => ?_) (fun h14 => ?_)
        · have h14 : u + bs < xs.length := by simp at h14; omega
          obtain ⟨sA, sB, hst⟩ := p3_more hc.tr hc.to hr hbs h9 h14
          refine j_region ?_
          refine jg_adr _ rfl _ rfl rfl (op_move (.base rfl)) ?_
          refine jg_adr _ rfl _ rfl rfl (op_move (.base rfl)) ?_
          refine jg_adr _ rfl _ rfl rfl (op_move (.base rfl)) ?_
          refine jg_adr _ rfl _ rfl rfl (op_move (.base rfl)) ?_
          refine jg_adr _ rfl _ rfl rfl (op_move (.base rfl)) ?_
          refine jg_callT [] [0, 1, 2, 6] (sym_c f hc 3000 zs _ _ _ u (u + bs) xs.length rfl (by omega) rfl (by omega) (by omega) (by omega) (by omega) (by omega) sA sB) (.base rfl) rfl (by omega) (by omega) (.cons (.base rfl) (.cons (.base rfl) (.cons (.base rfl) (.cons (.base rfl) .nil)))) rfl rfl rfl rfl (.both rfl (.free rfl rfl (.free rfl rfl (.free rfl rfl .nil)))) ?_
          intro z2 hz2
          have hq2 := hst _ hz2
          refine jg_nil ?_
          refine jn_keep [0, 1, 2, 6] [100] (.cons rfl (.cons rfl (.cons rfl (.cons rfl .nil)))) (.cons rfl .nil) ?_
          refine jn_seq ?_
          refine j_region ?_
          refine jg_adr _ rfl _ rfl rfl (op_move (.base rfl)) ?_
          refine jg_adr _ rfl _ rfl rfl (op_mul (.base rfl) (.base rfl) (w64 (by omega))) ?_
          refine jg_adr _ rfl _ rfl rfl (op_assign (.base rfl)) ?_
          refine jg_nil ?_
          rw [show ((bs : Int) * 2) = ((2 * bs : Nat) : Int) from by omega]
          refine jn_keep [0, 1, 2, 6] [100] (.cons rfl (.cons rfl (.cons rfl (.cons rfl .nil)))) (.cons rfl .nil) ?_
          refine jn_blk ?_
          exact jn_loop (fun a w hi => ⟨(_, 2 * bs), (by first | omega | (simp; omega)), (⟨hq2, by omega⟩), (Sub.inv ⟨(by repeat (first | exact SubS_nil | refine SubS_cons rfl (by first | rfl | (simp; done) | assumption) ?_)), (by repeat (first | exact SubH_nil | refine SubH_cons rfl (by first | rfl | (simp; done) | assumption) ?_))⟩ hi)⟩)
        · have h14 : xs.length ≤ u + bs := by simp at h14; omega
          have hq2 := p3_end hr hbs h14
          refine j_skip (jn_seq ?_)
          refine j_region ?_
          refine jg_adr _ rfl _ rfl rfl (op_move (.base rfl)) ?_
          refine jg_adr _ rfl _ rfl rfl (op_mul (.base rfl) (.base rfl) (w64 (by omega))) ?_
          refine jg_adr _ rfl _ rfl rfl (op_assign (.base rfl)) ?_
          refine jg_nil ?_
          rw [show ((bs : Int) * 2) = ((2 * bs : Nat) : Int) from by omega]
          refine jn_keep [0, 1, 2, 6] [100] (.cons rfl (.cons rfl (.cons rfl (.cons rfl .nil)))) (.cons rfl .nil) ?_
          refine jn_blk ?_
          exact jn_loop (fun a w hi => ⟨(_, 2 * bs), (by first | omega | (simp; omega)), (⟨hq2, by omega⟩), (Sub.inv ⟨(by repeat (first | exact SubS_nil | refine SubS_cons rfl (by first | rfl | (simp; done) | assumption) ?_)), (by repeat (first | exact SubH_nil | refine SubH_cons rfl (by first | rfl | (simp; done) | assumption) ?_))⟩ hi)⟩)
    · have h7 : xs.length ≤ bs := by simp at h7; omega
      refine j_exit (je_seq (je_loop (je_blk ?_)))
      exact jn_finT0 (s0 := 0) Try.results41 rfl rfl hpos (p2_end hp hbs h7)

theorem sstable_ok (f : TFact → TFact → Int) (hc : Cmp f) (xs : List TFact) (hsm : xs.length ≤ 1000) (hpos : 0 < xs.length) : CtT Try.prog 34 rFact xs (fun ys => ys = ssort (leF f) xs) [.tv (rFun2 Try.prog rFact rFact (rInt .i64) (fun _ _ => True)) f] (.raw (.tuple #[])) := by
  refine ctT_intro Try.func34 rfl rfl rfl rfl rfl ?_
  intro w0 ok0 b0 o0 cap0 hmax
  unfold maxLen at hmax
  refine j_region ?_
  refine jg_adr _ rfl _ rfl rfl (op_move (.base rfl)) ?_
  refine jg_adr _ rfl _ rfl rfl (op_move (.base rfl)) ?_
  refine jg_adr _ rfl _ rfl rfl (op_len_own Try.underlying22 (.b1 rfl)) ?_
  refine jg_adr _ rfl _ rfl rfl (op_move (.base rfl)) ?_
  refine jg_callT [] [0] (stable_ok f hc xs hsm hpos) (.base rfl) rfl (by first | rfl | omega | (simp; done) | (simp; omega)) (by omega) (.cons (.base rfl) (.cons (.base rfl) .nil)) rfl rfl rfl rfl (.both rfl .nil) ?_
  intro y2 h2
  refine jg_nil ?_
  refine jn_keep [0] [100] (.cons rfl .nil) (.cons rfl .nil) ?_
  exact jn_finT0 (s0 := 0) Try.results34 rfl rfl hpos h2

end Go.Proofs.Ytfamnoalgjkjhaa
