import Derived.Test.YtfamnoalgjkjhaaP34j
namespace Go.Proofs.Ytfamnoalgjkjhaa
open Go.Eng
set_option maxRecDepth 100000
set_option maxHeartbeats 4000000
set_option linter.unusedVariables false
set_option linter.unusedSimpArgs false

theorem ffree_ok (nx : List Int) (hg : GoodN nx) (i : Nat) (hi : i < nx.length) : CtT Try.prog 40 (rInt .i64) nx (SameFr nx) [.raw (.int .i64 ((i : Nat) : Int))] (.raw (.int .i64 ((ffree nx i : Nat) : Int))) := by
  refine ctT_intro Try.func40 rfl rfl rfl rfl rfl ?_
  intro w0 ok0 b0 o0 cap0 hmax
  unfold maxLen at hmax
  refine j_seq ?_
  refine j_region ?_
  refine jg_adr _ rfl _ rfl rfl (op_assign (.base rfl)) ?_
  refine jg_nil ?_
  refine jn_keep [0, 1] [100] (.cons rfl (.cons rfl .nil)) (.cons rfl .nil) ?_
  refine jn_seq (j_seq ?_)
  refine j_region ?_
  refine jg_adr _ rfl _ rfl rfl (op_move (.base rfl)) ?_
  refine jg_adr _ rfl _ rfl rfl (op_assign (.base rfl)) ?_
  refine jg_nil ?_
  refine jn_keep [0, 1, 5] [100] (.cons rfl (.cons rfl (.cons rfl .nil))) (.cons rfl .nil) ?_
  refine jn_seq (j_seq (j_block ?_))
  refine j_loopp (ι := Nat) (fun e => ⟨[(0, .both (.own 100 (rInt .i64).n 0 nx.length) (.slice (some ⟨b0, o0, none⟩) nx.length cap0)), (1, .raw (.int .i64 ((i : Nat) : Int))), (5, .raw (.int .i64 ((e : Nat) : Int)))], [(100, ⟨(rInt .i64), nx⟩)]⟩) (fun e => i ≤ e ∧ e < nx.length ∧ ∀ j, i ≤ j → j < e → ¬ Fr nx j) (fun e => nx.length - e) i (⟨Nat.le_refl _, hi, fun j _ _ => by omega⟩) (fun a w hi => (Sub.inv ⟨(by repeat (first | exact SubS_nil | refine SubS_cons rfl (by first | rfl | (simp; done) | assumption) ?_)), (by repeat (first | exact SubH_nil | refine SubH_cons rfl (by first | rfl | (simp; done) | assumption) ?_))⟩ hi)) ?_
  rintro e ⟨h1, hel, hno⟩
  refine j_seq (j_seq ?_)
  refine j_region ?_
  refine jg_adr _ rfl _ rfl rfl (op_move (.base rfl)) ?_
  refine jg_adr _ rfl _ rfl rfl (op_move (.base rfl)) ?_
  refine jg_adr _ rfl _ rfl rfl (op_oindex Try.underlying37 ty3 (.b1 rfl) (.base rfl) rfl (by first | omega | (simp; done) | (simp; omega))) ?_
  refine jg_adr _ rfl _ rfl rfl (op_oload ty3 (.base rfl) rfl (List.getElem?_eq_getElem (by first | omega | (simp; done) | (simp; omega))) (Lens.id _)) ?_
  refine jg_adr _ rfl _ rfl rfl (op_move (.base rfl)) ?_
  refine jg_adr _ rfl _ rfl rfl (op_neq (.base rfl) (.base rfl)) ?_
  refine jg_nil ?_
  refine jn_keep [0, 1, 5, 12] [100] (.cons rfl (.cons rfl (.cons rfl (.cons rfl .nil)))) (.cons rfl .nil) ?_
  refine jn_seq ?_
  refine j_cond rfl (fun h2 => ?_) (fun h2 => ?_)
  · have h2 : nx[e] ≠ (e : Int) := by simpa using h2
    obtain ⟨v, hv, hv1, hv2, hv3⟩ := seek_step hg h1 hel hno h2
    refine j_skip (jn_seq (j_block ?_))
    refine j_region ?_
    refine jg_adr _ rfl _ rfl rfl (op_move (.base rfl)) ?_
    refine jg_adr _ rfl _ rfl rfl (op_move (.base rfl)) ?_
    refine jg_adr _ rfl _ rfl rfl (op_oindex Try.underlying37 ty3 (.b1 rfl) (.base rfl) rfl (by first | omega | (simp; done) | (simp; omega))) ?_
    refine jg_adr _ rfl _ rfl rfl (op_oload ty3 (.base rfl) rfl (List.getElem?_eq_getElem (by first | omega | (simp; done) | (simp; omega))) (Lens.id _)) ?_
    refine jg_adr _ rfl _ rfl rfl (op_assign (.base rfl)) ?_
    refine jg_nil ?_
    rw [show (nx[0 + e]'(by omega)) = (v : Int) from by simpa using hv]
    refine jn_keep [0, 1, 5] [100] (.cons rfl (.cons rfl (.cons rfl .nil))) (.cons rfl .nil) ?_
    refine jn_blk ?_
    exact jn_loop (fun a w hi => ⟨v, (by first | omega | (simp; omega)), (⟨by omega, hv2, hv3⟩), Sub.inv ⟨(by repeat (first | exact SubS_nil | refine SubS_cons rfl (by first | rfl | (simp; done) | assumption) ?_)), (by repeat (first | exact SubH_nil | refine SubH_cons rfl (by first | rfl | (simp; done) | assumption) ?_))⟩ hi⟩)
  · have h2 : nx[e] = (e : Int) := by simpa using h2
    have hff : IsFF nx i e := ⟨h1, hel, (fr_of hel).2 h2, hno⟩
    refine j_exit (je_seq (je_loop (je_blk (jn_seq (j_seq (j_block ?_))))))
    refine j_loopp (ι := (List Int × Nat)) (fun (ys, q) => ⟨[(0, .both (.own 100 (rInt .i64).n 0 nx.length) (.slice (some ⟨b0, o0, none⟩) nx.length cap0)), (1, .raw (.int .i64 ((q : Nat) : Int))), (5, .raw (.int .i64 ((e : Nat) : Int)))], [(100, ⟨(rInt .i64), ys⟩)]⟩) (fun (ys, q) => SameFr nx ys ∧ i ≤ q ∧ q ≤ e) (fun (ys, q) => e - q) (nx, i) (⟨sameFr_refl hg, Nat.le_refl _, h1⟩) (fun a w hi => (Sub.inv ⟨(by repeat (first | exact SubS_nil | refine SubS_cons rfl (by first | rfl | (simp; done) | assumption) ?_)), (by repeat (first | exact SubH_nil | refine SubH_cons rfl (by first | rfl | (simp; done) | assumption) ?_))⟩ hi)) ?_
    rintro ⟨ys, q⟩ ⟨hs, hq1, hq2⟩
    have hyl := hs.len
    have hql : q < ys.length := by omega
    refine j_seq (j_seq ?_)
    refine j_region ?_
    refine jg_adr _ rfl _ rfl rfl (op_move (.base rfl)) ?_
    refine jg_adr _ rfl _ rfl rfl (op_move (.base rfl)) ?_
    refine jg_adr _ rfl _ rfl rfl (op_oindex Try.underlying37 ty3 (.b1 rfl) (.base rfl) rfl (by first | omega | (simp; done) | (simp; omega))) ?_
    refine jg_adr _ rfl _ rfl rfl (op_oload ty3 (.base rfl) rfl (List.getElem?_eq_getElem (by first | omega | (simp; done) | (simp; omega))) (Lens.id _)) ?_
    refine jg_adr _ rfl _ rfl rfl (op_move (.base rfl)) ?_
    refine jg_adr _ rfl _ rfl rfl (op_neq (.base rfl) (.base rfl)) ?_
    refine jg_nil ?_
    refine jn_keep [0, 1, 5, 22] [100] (.cons rfl (.cons rfl (.cons rfl (.cons rfl .nil)))) (.cons rfl .nil) ?_
    refine jn_seq ?_
    refine j_cond rfl (fun h4 => ?_) (fun h4 => ?_)
    · have h4 : ys[q] ≠ (q : Int) := by simpa using h4
      obtain ⟨v, hv, hv1, hv2, hv3⟩ := short_step hff hs hq1 hq2 hql h4
      refine j_skip (jn_seq (j_block ?_))
      refine j_region ?_
      refine jg_adr _ rfl _ rfl rfl (op_move (.base rfl)) ?_
      refine jg_adr _ rfl _ rfl rfl (op_move (.base rfl)) ?_
      refine jg_adr _ rfl _ rfl rfl (op_move (.base rfl)) ?_
      refine jg_adr _ rfl _ rfl rfl (op_move (.base rfl)) ?_
      refine jg_adr _ rfl _ rfl rfl (op_oindex Try.underlying37 ty3 (.b1 rfl) (.base rfl) rfl (by first | omega | (simp; done) | (simp; omega))) ?_
      refine jg_adr _ rfl _ rfl rfl (op_oload ty3 (.base rfl) rfl (List.getElem?_eq_getElem (by first | omega | (simp; done) | (simp; omega))) (Lens.id _)) ?_
      refine jg_adr _ rfl _ rfl rfl (op_move (.base rfl)) ?_
      refine jg_adr _ rfl _ rfl rfl (op_assign (.base rfl)) ?_
      refine jg_adr _ rfl _ rfl rfl (op_oindex Try.underlying37 ty3 (.b1 rfl) (.base rfl) rfl (by first | omega | (simp; done) | (simp; omega))) ?_
      refine jg_os _ rfl (op_ostore ty3 (.base rfl) rfl (List.getElem?_eq_getElem (by first | omega | (simp; done) | (simp; omega))) (Lens.id _) (.raw (.base rfl) rfl)) ?_
      refine jg_nil ?_
      rw [show (ys[0 + q]'(by omega)) = (v : Int) from by simpa using hv]
      refine jn_keep [0, 1, 5] [100] (.cons rfl (.cons rfl (.cons rfl .nil))) (.cons rfl .nil) ?_
      refine jn_blk ?_
      exact jn_loop (fun a w hi => ⟨(_, v), (by first | omega | (simp; omega)), (⟨hv3, by omega, by omega⟩), Sub.inv ⟨(by repeat (first | exact SubS_nil | refine SubS_cons rfl (by first | rfl | (simp; done) | assumption) ?_)), (by repeat (first | exact SubH_nil | refine SubH_cons rfl (by first | rfl | (simp; done) | assumption) ?_))⟩ hi⟩)
    · skip
      refine j_exit (je_seq (je_loop (je_blk (jn_seq (j_seq ?_)))))
      refine j_region ?_
      refine jg_adr _ rfl _ rfl rfl (op_move (.base rfl)) ?_
      refine jg_adr _ rfl _ rfl rfl (op_assign (.base rfl)) ?_
      refine jg_nil ?_
      refine jn_keep [0, 4] [100] (.cons rfl (.cons rfl .nil)) (.cons rfl .nil) ?_
      refine jn_seq (j_ret ?_)
      exact jr_finT1 (s0 := 0) Try.results40 (res_tmp rfl) rfl (by rw [ffree_eq hff]) rfl rfl (by omega) hs

end Go.Proofs.Ytfamnoalgjkjhaa
