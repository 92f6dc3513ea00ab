import Derived.Test.YtfamnoalgjkjhaaP34l
namespace Go.Proofs.Ytfamnoalgjkjhaa
open Go.Eng
set_option maxRecDepth 100000
set_option maxHeartbeats 4000000
set_option linter.unusedVariables false
set_option linter.unusedSimpArgs false

theorem ffree_c (nx : List Int) (hg : GoodN nx) (i : Nat) {ia : Int} (e : ia = (i : Int)) (hi : i < nx.length) : CtT Try.prog 40 (rInt .i64) nx (SameFr nx) [.raw (.int .i64 ia)] (.raw (.int .i64 ((ffree nx i : Nat) : Int))) := by
  subst e; exact ffree_ok nx hg i hi
theorem set_fill {ws : List Int} {k : Nat} (f : Nat → Int) (h : ∀ j, j < k → ws[j]? = some (f j)) (hk : k < ws.length) {x : Int} (hx : x = f k) : ∀ j, j < k + 1 → (ws.set k x)[j]? = some (f j) := fun j hj => by
  subst hx
  by_cases c : k = j
  · subst c; rw [List.getElem?_set_self hk]
  · rw [List.getElem?_set_ne c]; exact h j (by omega)

theorem winners_ok (l : List TFact) (bs : List Int) (hlm : l.length ≤ 1000) (hbm : bs.length ≤ 10000) (hsb : SortI bs) : Ct Try.prog 29 [.tv (rSlice rFact) l, .tv (rSlice (rInt .i64)) bs] (.tv (rSlice (rInt .i64)) (winL bs l)) := by
  refine ct_intro Try.func29 rfl rfl Try.ntmps29 rfl rfl ?_
  intro w0 ok0
  refine j_seq ?_
  refine j_region ?_
  refine jg_adr _ rfl _ rfl rfl (op_assign (.base rfl)) ?_
  refine jg_nil ?_
  refine jn_keep [0, 1] [] (.cons rfl (.cons rfl .nil)) .nil ?_
  refine jn_seq (j_seq ?_)
  refine j_region ?_
  refine jg_adr _ rfl _ rfl rfl (op_move (.base rfl)) ?_
  refine jg_adr _ rfl _ rfl rfl (op_len Try.underlying37 (.base rfl)) ?_
  refine jg_adr _ rfl _ rfl rfl (op_sub (.base rfl) (.base rfl) (w64 (by omega))) ?_
  refine jg_adr _ rfl _ rfl rfl (op_max (.base rfl) (.base rfl)) ?_
  refine jg_adr _ rfl _ rfl rfl (op_assign (.base rfl)) ?_
  refine jg_nil ?_
  rw [show (if (bs.length : Int) - 1 < 0 then 0 else (bs.length : Int) - 1) = ((bs.length - 1 : Nat) : Int) from by split <;> omega]
  obtain ⟨n, hn⟩ : ∃ n, n = bs.length - 1 := ⟨_, rfl⟩
  rw [← hn]
  refine jn_keep [0, 1, 5] [] (.cons rfl (.cons rfl (.cons rfl .nil))) .nil ?_
  refine jn_seq (j_seq ?_)
  refine j_region ?_
  refine jg_adr _ rfl _ rfl rfl (op_move (.base rfl)) ?_
  refine jg_os _ rfl (op_make Try.underlying37 ty3 z3 rfl by3 (.base rfl) (.base rfl) (by omega) (by unfold maxLen; omega) rfl rfl rfl) ?_
  refine jg_adr _ rfl _ rfl rfl (op_assign (.base rfl)) ?_
  refine jg_nil ?_
  refine jn_keep [0, 1, 5, 6] [22] (.cons rfl (.cons rfl (.cons rfl (.cons rfl .nil)))) (.cons rfl .nil) ?_
  refine jn_seq (j_seq ?_)
  refine j_region ?_
  refine jg_adr _ rfl _ rfl rfl (op_move (.base rfl)) ?_
  refine jg_adr _ rfl _ rfl rfl (op_add (.base rfl) (.base rfl) (w64 (by omega))) ?_
  rw [show ((n : Int) + 1) = ((n + 1 : Nat) : Int) from by omega]
  refine jg_os _ rfl (op_make Try.underlying37 ty3 z3 rfl by3 (.base rfl) (.base rfl) (by omega) (by unfold maxLen; omega) rfl rfl rfl) ?_
  refine jg_adr _ rfl _ rfl rfl (op_assign (.base rfl)) ?_
  refine jg_pin 7 rfl (by omega) (fun b1 o1 cap1 => ?_)
  refine jg_nil ?_
  refine jn_keep [0, 1, 5, 6, 7] [22, 25] (.cons rfl (.cons rfl (.cons rfl (.cons rfl (.cons rfl .nil))))) (.cons rfl (.cons rfl .nil)) ?_
  refine jn_seq (j_seq (j_seq ?_))
  refine j_region ?_
  refine jg_adr _ rfl _ rfl rfl (op_move (.base rfl)) ?_
  refine jg_adr _ rfl _ rfl rfl (op_len_own Try.underlying37 (.base rfl)) ?_
  refine jg_adr _ rfl _ rfl rfl (op_move (.base rfl)) ?_
  refine jg_nil ?_
  refine jn_keep [0, 1, 5, 6, 7, 27, 28] [22, 25] (.cons rfl (.cons rfl (.cons rfl (.cons rfl (.cons rfl (.cons rfl (.cons rfl .nil))))))) (.cons rfl (.cons rfl .nil)) ?_
  refine jn_seq (j_block ?_)
  refine j_loopp (ι := (List Int × Nat)) (fun (ws, k) => ⟨[(0, .tv (rSlice rFact) l), (1, .tv (rSlice (rInt .i64)) bs), (5, .raw (.int .i64 ((n : Nat) : Int))), (6, .own 22 (rInt .i64).n 0 n), (7, .both (.own 25 (rInt .i64).n 0 (n + 1)) (.slice (some ⟨b1, o1, none⟩) (n + 1) cap1)), (27, .raw (.int .i64 ((n : Nat) : Int))), (28, .raw (.int .i64 ((k : Nat) : Int)))], [(22, ⟨(rInt .i64), ws⟩), (25, ⟨(rInt .i64), (List.replicate (n + 1) 0)⟩)]⟩) (fun (ws, k) => ws.length = n ∧ ∀ j, j < k → ws[j]? = some (-1)) (fun (ws, k) => n - k) (List.replicate n 0, 0) (⟨by simp, fun j hj => by omega⟩) (fun a w hi => (Sub.inv ⟨(by repeat (first | exact SubS_nil | refine SubS_cons rfl (by first | rfl | (simp; done) | assumption) ?_)), (by repeat (first | exact SubH_nil | refine SubH_cons rfl (by first | rfl | (simp; done) | assumption) ?_))⟩ hi)) ?_
  rintro ⟨ws, k⟩ ⟨hwl, hwf⟩
  refine j_seq ?_
  refine j_region ?_
  refine jg_adr _ rfl _ rfl rfl (op_lss (.base rfl) (.base rfl)) ?_
  refine jg_nil ?_
  refine jn_keep [0, 1, 5, 6, 7, 27, 28, 29] [22, 25] (.cons rfl (.cons rfl (.cons rfl (.cons rfl (.cons rfl (.cons rfl (.cons rfl (.cons rfl .nil)))))))) (.cons rfl (.cons rfl .nil)) ?_
  refine jn_seq (j_seq ?_)
  refine j_cond rfl (fun h5 => ?_) (fun h5 => ?_)
  · have h5 : k < n := by simp at h5; omega
    refine j_skip (jn_seq (j_seq (j_block (j_seq ?_))))
    refine j_region ?_
    refine jg_adr _ rfl _ rfl rfl (op_move (.base rfl)) ?_
    refine jg_adr _ rfl _ rfl rfl (op_assign (.base rfl)) ?_
    refine jg_nil ?_
    refine jn_keep [0, 1, 5, 6, 7, 8, 27, 28] [22, 25] (.cons rfl (.cons rfl (.cons rfl (.cons rfl (.cons rfl (.cons rfl (.cons rfl (.cons rfl .nil)))))))) (.cons rfl (.cons rfl .nil)) ?_
    refine jn_seq ?_
    refine j_region ?_
    refine jg_adr _ rfl _ rfl rfl (op_move (.base rfl)) ?_
    refine jg_adr _ rfl _ rfl rfl (op_move (.base rfl)) ?_
    refine jg_adr _ rfl _ rfl rfl (op_oindex Try.underlying37 ty3 (.base rfl) (.base rfl) rfl (by first | omega | (simp; done) | (simp; omega))) ?_
    refine jg_os _ rfl (op_ostore ty3 (.base rfl) rfl (List.getElem?_eq_getElem (by first | omega | (simp; done) | (simp; omega))) (Lens.id _) (.raw (.base rfl) rfl)) ?_
    refine jg_nil ?_
    rw [Nat.zero_add k]
    refine jn_keep [0, 1, 5, 6, 7, 27, 28] [22, 25] (.cons rfl (.cons rfl (.cons rfl (.cons rfl (.cons rfl (.cons rfl (.cons rfl .nil))))))) (.cons rfl (.cons rfl .nil)) ?_
    refine jn_blk (jn_seq ?_)
    refine j_region ?_
    refine jg_adr _ rfl _ rfl rfl (op_add (.base rfl) (.base rfl) (w64 (by omega))) ?_
    refine jg_adr _ rfl _ rfl rfl (op_move (.base rfl)) ?_
    refine jg_nil ?_
    refine jn_keep [0, 1, 5, 6, 7, 27, 28] [22, 25] (.cons rfl (.cons rfl (.cons rfl (.cons rfl (.cons rfl (.cons rfl (.cons rfl .nil))))))) (.cons rfl (.cons rfl .nil)) ?_
    exact jn_loop (fun a w hi => ⟨(ws.set k (-1), k + 1), (by first | omega | (simp; omega)), (⟨by simp [hwl], set_fill (fun _ => -1) hwf (by omega) rfl⟩), Sub.inv ⟨(by repeat (first | exact SubS_nil | refine SubS_cons rfl (by first | rfl | (simp; done) | assumption) ?_)), (by repeat (first | exact SubH_nil | refine SubH_cons rfl (by first | rfl | (simp; done) | assumption) ?_))⟩ hi⟩)
  · have h5 : n ≤ k := by simp at h5; omega
    have hwf : ∀ s, s < n → ws[s]? = some (-1) := fun s hs => hwf s (by omega)
    refine j_exit (je_seq (je_loop (je_blk (jn_seq (j_seq (j_seq ?_))))))
    refine j_region ?_
    refine jg_adr _ rfl _ rfl rfl (op_move (.base rfl)) ?_
    refine jg_adr _ rfl _ rfl rfl (op_len_own Try.underlying37 (.b1 rfl)) ?_
    refine jg_adr _ rfl _ rfl rfl (op_move (.base rfl)) ?_
    refine jg_nil ?_
    refine jn_keep [0, 1, 5, 6, 7, 36, 37] [22, 25] (.cons rfl (.cons rfl (.cons rfl (.cons rfl (.cons rfl (.cons rfl (.cons rfl .nil))))))) (.cons rfl (.cons rfl .nil)) ?_
    refine jn_seq (j_block ?_)
    refine j_loopp (ι := (List Int × Nat)) (fun (ns, k) => ⟨[(0, .tv (rSlice rFact) l), (1, .tv (rSlice (rInt .i64)) bs), (5, .raw (.int .i64 ((n : Nat) : Int))), (6, .own 22 (rInt .i64).n 0 n), (7, .both (.own 25 (rInt .i64).n 0 (n + 1)) (.slice (some ⟨b1, o1, none⟩) (n + 1) cap1)), (36, .raw (.int .i64 (((n + 1) : Nat) : Int))), (37, .raw (.int .i64 ((k : Nat) : Int)))], [(22, ⟨(rInt .i64), ws⟩), (25, ⟨(rInt .i64), ns⟩)]⟩) (fun (ns, k) => ns.length = n + 1 ∧ ∀ j, j < k → ns[j]? = some (j : Int)) (fun (ns, k) => n + 1 - k) (List.replicate (n + 1) 0, 0) (⟨by simp, fun j hj => by omega⟩) (fun a w hi => (Sub.inv ⟨(by repeat (first | exact SubS_nil | refine SubS_cons rfl (by first | rfl | (simp; done) | assumption) ?_)), (by repeat (first | exact SubH_nil | refine SubH_cons rfl (by first | rfl | (simp; done) | assumption) ?_))⟩ hi)) ?_
    rintro ⟨ns, k⟩ ⟨hnl, hnf⟩
    refine j_seq ?_
    refine j_region ?_
    refine jg_adr _ rfl _ rfl rfl (op_lss (.base rfl) (.base rfl)) ?_
    refine jg_nil ?_
    refine jn_keep [0, 1, 5, 6, 7, 36, 37, 38] [22, 25] (.cons rfl (.cons rfl (.cons rfl (.cons rfl (.cons rfl (.cons rfl (.cons rfl (.cons rfl .nil)))))))) (.cons rfl (.cons rfl .nil)) ?_
    refine jn_seq (j_seq ?_)
    refine j_cond rfl (fun h10 => ?_) (fun h10 => ?_)
    · have h10 : k < n + 1 := by simp at h10; omega
      refine j_skip (jn_seq (j_seq (j_block (j_seq ?_))))
      refine j_region ?_
      refine jg_adr _ rfl _ rfl rfl (op_move (.base rfl)) ?_
      refine jg_adr _ rfl _ rfl rfl (op_assign (.base rfl)) ?_
      refine jg_nil ?_
      refine jn_keep [0, 1, 5, 6, 7, 9, 36, 37] [22, 25] (.cons rfl (.cons rfl (.cons rfl (.cons rfl (.cons rfl (.cons rfl (.cons rfl (.cons rfl .nil)))))))) (.cons rfl (.cons rfl .nil)) ?_
      refine jn_seq ?_
      refine j_region ?_
      refine jg_adr _ rfl _ rfl rfl (op_move (.base rfl)) ?_
      refine jg_adr _ rfl _ rfl rfl (op_move (.base rfl)) ?_
      refine jg_adr _ rfl _ rfl rfl (op_move (.base rfl)) ?_
      refine jg_adr _ rfl _ rfl rfl (op_oindex Try.underlying37 ty3 (.b1 rfl) (.base rfl) rfl (by first | omega | (simp; done) | (simp; omega))) ?_
      refine jg_os _ rfl (op_ostore ty3 (.base rfl) rfl (List.getElem?_eq_getElem (by first | omega | (simp; done) | (simp; omega))) (Lens.id _) (.raw (.base rfl) rfl)) ?_
      refine jg_nil ?_
      rw [Nat.zero_add k]
      refine jn_keep [0, 1, 5, 6, 7, 36, 37] [22, 25] (.cons rfl (.cons rfl (.cons rfl (.cons rfl (.cons rfl (.cons rfl (.cons rfl .nil))))))) (.cons rfl (.cons rfl .nil)) ?_
      refine jn_blk (jn_seq ?_)
      refine j_region ?_
      refine jg_adr _ rfl _ rfl rfl (op_add (.base rfl) (.base rfl) (w64 (by omega))) ?_
      refine jg_adr _ rfl _ rfl rfl (op_move (.base rfl)) ?_
      refine jg_nil ?_
      refine jn_keep [0, 1, 5, 6, 7, 36, 37] [22, 25] (.cons rfl (.cons rfl (.cons rfl (.cons rfl (.cons rfl (.cons rfl (.cons rfl .nil))))))) (.cons rfl (.cons rfl .nil)) ?_
      exact jn_loop (fun a w hi => ⟨(ns.set k (k : Int), k + 1), (by first | omega | (simp; omega)), (⟨by simp [hnl], set_fill (fun j => (j : Int)) hnf (by omega) rfl⟩), Sub.inv ⟨(by repeat (first | exact SubS_nil | refine SubS_cons rfl (by first | rfl | (simp; done) | assumption) ?_)), (by repeat (first | exact SubH_nil | refine SubH_cons rfl (by first | rfl | (simp; done) | assumption) ?_))⟩ hi⟩)
    · have h10 : n + 1 ≤ k := by simp at h10; omega
      have hnf : ∀ s, s < n + 1 → ns[s]? = some (s : Int) := fun s hs => hnf s (by omega)
      have hw0 := win_init (bs := bs) (l := l) hwl hnl hwf hnf
      refine j_exit (je_seq (je_loop (je_blk (jn_seq (j_seq (j_seq ?_))))))
      refine j_region ?_
      refine jg_adr _ rfl _ rfl rfl (op_move (.base rfl)) ?_
      refine jg_adr _ rfl _ rfl rfl (op_len Try.underlying22 (.base rfl)) ?_
      refine jg_adr _ rfl _ rfl rfl (op_move (.base rfl)) ?_
      refine jg_nil ?_
      refine jn_keep [1, 5, 6, 7, 45, 46, 47] [22, 25] (.cons rfl (.cons rfl (.cons rfl (.cons rfl (.cons rfl (.cons rfl (.cons rfl .nil))))))) (.cons rfl (.cons rfl .nil)) ?_
      refine jn_seq (j_block ?_)
      refine j_loopp (ι := (List Int × List Int × Nat)) (fun (ws, ns, k) => ⟨[(1, .tv (rSlice (rInt .i64)) bs), (5, .raw (.int .i64 ((n : Nat) : Int))), (6, .own 22 (rInt .i64).n 0 n), (7, .both (.own 25 (rInt .i64).n 0 (n + 1)) (.slice (some ⟨b1, o1, none⟩) (n + 1) cap1)), (45, .tv (rSlice rFact) l), (46, .raw (.int .i64 ((l.length : Nat) : Int))), (47, .raw (.int .i64 ((k : Nat) : Int)))], [(22, ⟨(rInt .i64), ws⟩), (25, ⟨(rInt .i64), ns⟩)]⟩) (fun (ws, ns, k) => WinI bs l k n ws ns 0 ∧ k ≤ l.length) (fun (ws, ns, k) => l.length - k) (_, _, 0) (⟨hw0, Nat.zero_le _⟩) (fun a w hi => (Sub.inv ⟨(by repeat (first | exact SubS_nil | refine SubS_cons rfl (by first | rfl | (simp; done) | assumption) ?_)), (by repeat (first | exact SubH_nil | refine SubH_cons rfl (by first | rfl | (simp; done) | assumption) ?_))⟩ hi)) ?_
      rintro ⟨ws, ns, k⟩ ⟨hw, hkl⟩
      have hwl := hw.wl
      have hnl := hw.nl
      refine j_seq ?_
      refine j_region ?_
      refine jg_adr _ rfl _ rfl rfl (op_lss (.base rfl) (.base rfl)) ?_
      refine jg_nil ?_
      refine jn_keep [1, 5, 6, 7, 45, 46, 47, 48] [22, 25] (.cons rfl (.cons rfl (.cons rfl (.cons rfl (.cons rfl (.cons rfl (.cons rfl (.cons rfl .nil)))))))) (.cons rfl (.cons rfl .nil)) ?_
      refine jn_seq (j_seq ?_)
      refine j_cond rfl (fun h15 => ?_) (fun h15 => ?_)
      · have h15 : k < l.length := by simp at h15; omega
        refine j_skip (jn_seq (j_seq (j_block (j_seq ?_))))
        refine j_region ?_
        refine jg_adr _ rfl _ rfl rfl (op_move (.base rfl)) ?_
        refine jg_adr _ rfl _ rfl rfl (op_index Try.underlying22 ty45 (.base rfl) (.base rfl) rfl (List.getElem?_eq_getElem (by first | omega | (simp; done) | (simp; omega) | (simp at hg; omega)))) ?_
        refine jg_adr _ rfl _ rfl rfl (op_load ty45 (.base rfl)) ?_
        refine jg_os _ rfl (op_alloc _ z45 rfl rfl rfl) ?_
        refine jg_adr _ rfl _ rfl rfl (op_assign (.base rfl)) ?_
        refine jg_os _ rfl (op_ostore ty45 (.base rfl) rfl rfl (Lens.id _) (.tv (.base rfl))) ?_
        refine jg_nil ?_
        refine jn_keep [1, 5, 6, 7, 10, 11, 45, 46, 47] [11, 22, 25] (.cons rfl (.cons rfl (.cons rfl (.cons rfl (.cons rfl (.cons rfl (.cons rfl (.cons rfl (.cons rfl .nil))))))))) (.cons rfl (.cons rfl (.cons rfl .nil))) ?_
        refine jn_seq (j_seq ?_)
        refine j_region ?_
        refine jg_adr _ rfl _ rfl rfl (op_move (.base rfl)) ?_
        refine jg_adr _ rfl _ rfl rfl (op_ofield fld45_4 (.base rfl)) ?_
        refine jg_adr _ rfl _ rfl rfl (op_ofield fld40_0 (.base rfl)) ?_
        refine jg_adr _ rfl _ rfl rfl (op_oload ty3 (.base rfl) rfl rfl (Lens.comp ln45_4 ln40_0)) ?_
        refine jg_adr _ rfl _ rfl rfl (op_call (bsearch_ok _ _ (by omega) hsb) (.cons (.base rfl) (.cons (.base rfl) .nil)) rfl rfl) ?_
        refine jg_adr _ rfl _ rfl rfl (op_move (.base rfl)) ?_
        refine jg_adr _ rfl _ rfl rfl (op_ext20 (.base rfl)) ?_
        refine jg_adr _ rfl _ rfl rfl (op_ext21 (.base rfl)) ?_
        refine jg_adr _ rfl _ rfl rfl (op_assign (.base rfl)) ?_
        refine jg_adr _ rfl _ rfl rfl (op_assign (.base rfl)) ?_
        refine jg_nil ?_
        refine jn_keep [1, 5, 6, 7, 10, 11, 12, 45, 46, 47] [11, 22, 25] (.cons rfl (.cons rfl (.cons rfl (.cons rfl (.cons rfl (.cons rfl (.cons rfl (.cons rfl (.cons rfl (.cons rfl .nil)))))))))) (.cons rfl (.cons rfl (.cons rfl .nil))) ?_
        refine jn_seq (j_seq ?_)
        refine j_region ?_
        refine jg_adr _ rfl _ rfl rfl (op_move (.base rfl)) ?_
        refine jg_adr _ rfl _ rfl rfl (op_ofield fld45_4 (.base rfl)) ?_
        refine jg_adr _ rfl _ rfl rfl (op_ofield fld40_1 (.base rfl)) ?_
        refine jg_adr _ rfl _ rfl rfl (op_oload ty3 (.base rfl) rfl rfl (Lens.comp ln45_4 ln40_1)) ?_
        refine jg_adr _ rfl _ rfl rfl (op_call (bsearch_ok _ _ (by omega) hsb) (.cons (.base rfl) (.cons (.base rfl) .nil)) rfl rfl) ?_
        refine jg_adr _ rfl _ rfl rfl (op_move (.base rfl)) ?_
        refine jg_adr _ rfl _ rfl rfl (op_ext20 (.base rfl)) ?_
        refine jg_adr _ rfl _ rfl rfl (op_ext21 (.base rfl)) ?_
        refine jg_adr _ rfl _ rfl rfl (op_assign (.base rfl)) ?_
        refine jg_adr _ rfl _ rfl rfl (op_assign (.base rfl)) ?_
        refine jg_nil ?_
        refine jn_keep [1, 5, 6, 7, 10, 12, 14, 45, 46, 47] [22, 25] (.cons rfl (.cons rfl (.cons rfl (.cons rfl (.cons rfl (.cons rfl (.cons rfl (.cons rfl (.cons rfl (.cons rfl .nil)))))))))) (.cons rfl (.cons rfl .nil)) ?_
        refine jn_seq (j_seq ?_)
        refine j_region ?_
        refine jg_adr _ rfl _ rfl rfl (op_move (.base rfl)) ?_
        refine jg_adr _ rfl _ rfl rfl (op_move (.base rfl)) ?_
        refine jg_adr _ rfl _ rfl rfl (op_move (.base rfl)) ?_
        refine jg_adr _ rfl _ rfl rfl (op_min (.base rfl) (.base rfl)) ?_
        refine jg_callT [22] [1, 5, 6, 7, 10, 14, 45, 46, 47] (ffree_c ns hw.good (min (lowB bs (l[k]'(by omega)).2.2.2.2.1.1) n) (by split <;> omega) (by omega)) (.base rfl) rfl (by first | rfl | omega | (simp; done) | (simp; omega)) (by omega) (.cons (.base rfl) .nil) rfl rfl rfl rfl (.free rfl rfl (.free rfl rfl (.free rfl rfl (.both rfl (.free rfl rfl (.free rfl rfl (.free rfl rfl (.free rfl rfl (.free rfl rfl .nil))))))))) ?_
        intro ns2 hs2
        refine jg_adr _ rfl _ rfl rfl (op_assign (.base rfl)) ?_
        refine jg_nil ?_
        obtain ⟨i0, hi0⟩ : ∃ i0, i0 = ffree ns (min (lowB bs (l[k]'(by omega)).2.2.2.2.1.1) n) := ⟨_, rfl⟩
        rw [← hi0]
        have hff : IsFF ns (min (lowB bs (l[k]'(by omega)).2.2.2.2.1.1) n) i0 := hi0 ▸ ff_ex hnl hw.last (by omega)
        have hw2 := win_start h15 hw hs2 hff
        have hfr2 := (hs2.fr i0).2 hff.2.2.1
        have hi0n : i0 ≤ n := by have := hff.2.1; omega
        refine jn_keep [1, 5, 6, 7, 10, 14, 16, 45, 46, 47] [22, 25] (.cons rfl (.cons rfl (.cons rfl (.cons rfl (.cons rfl (.cons rfl (.cons rfl (.cons rfl (.cons rfl (.cons rfl .nil)))))))))) (.cons rfl (.cons rfl .nil)) ?_
        refine jn_seq (j_block ?_)
        refine j_loopp (ι := (List Int × List Int × Nat)) (fun (ws2, ns2, i) => ⟨[(1, .tv (rSlice (rInt .i64)) bs), (5, .raw (.int .i64 ((n : Nat) : Int))), (6, .own 22 (rInt .i64).n 0 n), (7, .both (.own 25 (rInt .i64).n 0 (n + 1)) (.slice (some ⟨b1, o1, none⟩) (n + 1) cap1)), (10, .raw (.int .i64 ((k : Nat) : Int))), (14, .raw (.int .i64 (((lowB bs (l[k]'(by omega)).2.2.2.2.1.2) : Nat) : Int))), (16, .raw (.int .i64 ((i : Nat) : Int))), (45, .tv (rSlice rFact) l), (46, .raw (.int .i64 ((l.length : Nat) : Int))), (47, .raw (.int .i64 ((k : Nat) : Int)))], [(22, ⟨(rInt .i64), ws2⟩), (25, ⟨(rInt .i64), ns2⟩)]⟩) (fun (ws2, ns2, i) => WinI bs l k n ws2 ns2 i ∧ Fr ns2 i ∧ min (lowB bs (l[k]'(by omega)).2.2.2.2.1.1) n ≤ i ∧ i ≤ n) (fun (ws2, ns2, i) => n - i) (_, _, i0) (⟨hw2, hfr2, hff.1, hi0n⟩) (fun a w hi => (Sub.inv ⟨(by repeat (first | exact SubS_nil | refine SubS_cons rfl (by first | rfl | (simp; done) | assumption) ?_)), (by repeat (first | exact SubH_nil | refine SubH_cons rfl (by first | rfl | (simp; done) | assumption) ?_))⟩ hi)) ?_
        rintro ⟨ws2, ns2, i⟩ ⟨hw, hfr, hfi, hin⟩
        have hwl := hw.wl
        have hnl := hw.nl
        refine j_seq (j_seq ?_)
        refine j_region ?_
        refine jg_adr _ rfl _ rfl rfl (op_move (.base rfl)) ?_
        refine jg_adr _ rfl _ rfl rfl (op_move (.base rfl)) ?_
        refine jg_adr _ rfl _ rfl rfl (op_move (.base rfl)) ?_
        refine jg_adr _ rfl _ rfl rfl (op_min (.base rfl) (.base rfl)) ?_
        refine jg_adr _ rfl _ rfl rfl (op_lss (.base rfl) (.base rfl)) ?_
        refine jg_nil ?_
        refine jn_keep [1, 5, 6, 7, 10, 14, 16, 45, 46, 47, 77] [22, 25] (.cons rfl (.cons rfl (.cons rfl (.cons rfl (.cons rfl (.cons rfl (.cons rfl (.cons rfl (.cons rfl (.cons rfl (.cons rfl .nil))))))))))) (.cons rfl (.cons rfl .nil)) ?_
        refine jn_seq ?_
        refine j_cond rfl (fun h20 => ?_) (fun h20 => ?_)
        · have h20 : i < (lowB bs (l[k]'(by omega)).2.2.2.2.1.2) ∧ i < n := by simp at h20; (split at h20 <;> omega)
          refine j_skip (jn_seq (j_seq (j_block (j_seq ?_))))
          refine j_region ?_
          refine jg_adr _ rfl _ rfl rfl (op_move (.base rfl)) ?_
          refine jg_adr _ rfl _ rfl rfl (op_move (.base rfl)) ?_
          refine jg_adr _ rfl _ rfl rfl (op_move (.base rfl)) ?_
          refine jg_adr _ rfl _ rfl rfl (op_oindex Try.underlying37 ty3 (.base rfl) (.base rfl) rfl (by first | omega | (simp; done) | (simp; omega))) ?_
          refine jg_os _ rfl (op_ostore ty3 (.base rfl) rfl (List.getElem?_eq_getElem (by first | omega | (simp; done) | (simp; omega))) (Lens.id _) (.raw (.base rfl) rfl)) ?_
          refine jg_nil ?_
          rw [Nat.zero_add i]
          refine jn_keep [1, 5, 6, 7, 10, 14, 16, 45, 46, 47] [22, 25] (.cons rfl (.cons rfl (.cons rfl (.cons rfl (.cons rfl (.cons rfl (.cons rfl (.cons rfl (.cons rfl (.cons rfl .nil)))))))))) (.cons rfl (.cons rfl .nil)) ?_
          refine jn_seq ?_
          refine j_region ?_
          refine jg_adr _ rfl _ rfl rfl (op_move (.base rfl)) ?_
          refine jg_adr _ rfl _ rfl rfl (op_move (.base rfl)) ?_
          refine jg_adr _ rfl _ rfl rfl (op_move (.base rfl)) ?_
          refine jg_adr _ rfl _ rfl rfl (op_add (.base rfl) (.base rfl) (w64 (by omega))) ?_
          refine jg_adr _ rfl _ rfl rfl (op_oindex Try.underlying37 ty3 (.b1 rfl) (.base rfl) rfl (by first | omega | (simp; done) | (simp; omega))) ?_
          refine jg_os _ rfl (op_ostore ty3 (.base rfl) rfl (List.getElem?_eq_getElem (by first | omega | (simp; done) | (simp; omega))) (Lens.id _) (.raw (.base rfl) rfl)) ?_
          refine jg_nil ?_
          rw [Nat.zero_add i]
          have hgs := good_set hw.good hfr (by omega)
          refine jn_keep [1, 5, 6, 7, 10, 14, 16, 45, 46, 47] [22, 25] (.cons rfl (.cons rfl (.cons rfl (.cons rfl (.cons rfl (.cons rfl (.cons rfl (.cons rfl (.cons rfl (.cons rfl .nil)))))))))) (.cons rfl (.cons rfl .nil)) ?_
          refine jn_blk (jn_seq ?_)
          refine j_region ?_
          refine jg_adr _ rfl _ rfl rfl (op_move (.base rfl)) ?_
          refine jg_adr _ rfl _ rfl rfl (op_move (.base rfl)) ?_
          refine jg_callT [22] [1, 5, 6, 7, 10, 14, 45, 46, 47] (ffree_c (ns2.set i ((i + 1 : Nat) : Int)) hgs i rfl (by simp; omega)) (.base rfl) rfl (by simp; omega) (by omega) (.cons (.base rfl) .nil) rfl rfl rfl rfl (.free rfl rfl (.free rfl rfl (.free rfl rfl (.both rfl (.free rfl rfl (.free rfl rfl (.free rfl rfl (.free rfl rfl (.free rfl rfl .nil))))))))) ?_
          intro ns3 hs3
          refine jg_adr _ rfl _ rfl rfl (op_assign (.base rfl)) ?_
          refine jg_nil ?_
          obtain ⟨i2, hi2⟩ : ∃ i2, i2 = ffree (ns2.set i ((i + 1 : Nat) : Int)) i := ⟨_, rfl⟩
          rw [← hi2]
          have hff2 : IsFF (ns2.set i ((i + 1 : Nat) : Int)) i i2 := hi2 ▸ ff_ex (n := n) (by simp [hnl]) (by unfold Fr; rw [List.getElem?_set_ne (by omega)]; exact hw.last) (by omega)
          obtain ⟨hw3, hii⟩ := win_step h15 hw hfr hfi h20.1 h20.2 hs3 hff2
          refine jn_keep [1, 5, 6, 7, 10, 14, 16, 45, 46, 47] [22, 25] (.cons rfl (.cons rfl (.cons rfl (.cons rfl (.cons rfl (.cons rfl (.cons rfl (.cons rfl (.cons rfl (.cons rfl .nil)))))))))) (.cons rfl (.cons rfl .nil)) ?_
          exact jn_loop (fun a w hi => ⟨(_, _, i2), (by first | omega | (simp; omega)), (⟨hw3, (hs3.fr i2).2 hff2.2.2.1, by omega, by have := hff2.2.1; simp at this; omega⟩), Sub.inv ⟨(by repeat (first | exact SubS_nil | refine SubS_cons rfl (by first | rfl | (simp; done) | assumption) ?_)), (by repeat (first | exact SubH_nil | refine SubH_cons rfl (by first | rfl | (simp; done) | assumption) ?_))⟩ hi⟩)
        · have h20 : min (lowB bs (l[k]'(by omega)).2.2.2.2.1.2) n ≤ i := by simp at h20; (split at h20 <;> omega)
          have hw4 := win_end h15 hw h20
          refine j_exit (je_seq (je_loop (je_blk (jn_blk (jn_seq ?_)))))
          refine j_region ?_
          refine jg_adr _ rfl _ rfl rfl (op_add (.base rfl) (.base rfl) (w64 (by omega))) ?_
          refine jg_adr _ rfl _ rfl rfl (op_move (.base rfl)) ?_
          refine jg_nil ?_
          refine jn_keep [1, 5, 6, 7, 45, 46, 47] [22, 25] (.cons rfl (.cons rfl (.cons rfl (.cons rfl (.cons rfl (.cons rfl (.cons rfl .nil))))))) (.cons rfl (.cons rfl .nil)) ?_
          exact jn_loop (fun a w hi => ⟨(_, _, k + 1), (by first | omega | (simp; omega)), (⟨hw4, by omega⟩), Sub.inv ⟨(by repeat (first | exact SubS_nil | refine SubS_cons rfl (by first | rfl | (simp; done) | assumption) ?_)), (by repeat (first | exact SubH_nil | refine SubH_cons rfl (by first | rfl | (simp; done) | assumption) ?_))⟩ hi⟩)
      · obtain rfl : k = l.length := by simp at h15; omega
        refine j_exit (je_seq (je_loop (je_blk (jn_seq (j_seq ?_)))))
        refine j_region ?_
        refine jg_adr _ rfl _ rfl rfl (op_move (.base rfl)) ?_
        refine jg_adr _ rfl _ rfl rfl (op_assign (.base rfl)) ?_
        refine jg_nil ?_
        refine jn_keep [4] [22] (.cons rfl .nil) (.cons rfl .nil) ?_
        refine jn_seq (j_ret ?_)
        refine jr_seal (rt := (rInt .i64)) 22 4 (dropH 22 _) rfl rfl (by omega) (dropH_sub 22 _) (dropH_no 22 _) ?_
        exact jr_fin1 Try.results29 (res_tmp rfl) rfl (congrArg (SV.tv (rSlice (rInt .i64))) (by rw [List.drop_zero, List.take_of_length_le (by omega)]; exact win_done hw rfl hn))

end Go.Proofs.Ytfamnoalgjkjhaa
