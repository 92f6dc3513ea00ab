import Derived.Test.YtfamnoalgjkjhaaP34q
import Derived.Test.YtfamnoalgjkjhaaTurns
namespace Go.Proofs.Ytfamnoalgjkjhaa
open Go.Eng
set_option maxRecDepth 100000
set_option maxHeartbeats 4000000
set_option linter.unusedVariables false
set_option linter.unusedSimpArgs false

theorem bnd_succ {l : List Rg} {k : Nat} (hk : k < l.length) : bnd (l.take (k + 1)) = bnd (l.take k) ++ if hasD l[k] = true then [l[k].1, l[k].2] else [] := by
  rw [← List.take_append_getElem hk, bnd_append]; simp [bnd]
theorem bnd_len : ∀ (l : List Rg), (bnd l).length ≤ 2 * l.length
  | [] => by simp [bnd]
  | r :: l => by have := bnd_len l; rw [bnd, List.length_append, List.length_cons]; split <;> simp <;> omega
theorem cpt_take (zs : List Int) : (cptZ zs).take (Lib.compact zs).length = Lib.compact zs := List.take_left' rfl

theorem bounds5O (l : List Rg) (hlm : l.length ≤ 100000) : CtO Try.prog 28 [.tv (rSlice rDateRange) l] (rInt .i64) (uniqS (bnd l)) := by
  refine ctO_intro Try.func28 rfl rfl Try.ntmps28 rfl rfl ?_
  intro w0 ok0
  refine j_len 0 rfl (fun hl0 => ?_)
  refine j_seq ?_
  refine j_region ?_
  refine jg_adr _ rfl _ rfl rfl (op_assign (.base rfl)) ?_
  refine jg_nil ?_
  refine jn_keep [0] [] (.cons rfl .nil) .nil ?_
  refine jn_seq (j_seq ?_)
  refine j_region ?_
  refine jg_adr _ rfl _ rfl rfl (op_assign (.base rfl)) ?_
  refine jg_nil ?_
  refine jn_keep [0, 3] [] (.cons rfl (.cons rfl .nil)) .nil ?_
  refine jn_seq (j_seq (j_seq ?_))
  refine j_region ?_
  refine jg_adr _ rfl _ rfl rfl (op_move (.base rfl)) ?_
  refine jg_adr _ rfl _ rfl rfl (op_len Try.underlying54 (.base rfl)) ?_
  refine jg_adr _ rfl _ rfl rfl (op_move (.base rfl)) ?_
  refine jg_nil ?_
  refine jn_keep [3, 6, 7, 8] [] (.cons rfl (.cons rfl (.cons rfl (.cons rfl .nil)))) .nil ?_
  refine jn_seq (j_block ?_)
  refine j_vac 70 3 (rInt .i64) rfl rfl rfl ?_
  refine j_loopp (ι := Nat) (fun k => ⟨[(3, .own 70 (rInt .i64).n 0 (bnd (l.take k)).length), (6, .tv (rSlice rDateRange) l), (7, .raw (.int .i64 (l.length))), (8, .raw (.int .i64 ((k : Nat))))], [(70, ⟨rInt .i64, (bnd (l.take k))⟩)]⟩) (fun k => k ≤ l.length) (fun k => l.length - k) 0 (Nat.zero_le _) (fun a w hi => (Sub.inv ⟨(by repeat (first | exact SubS_nil | refine SubS_cons rfl (by first | rfl | (simp; done) | assumption) ?_)), (by repeat (first | exact SubH_nil | refine SubH_cons rfl (by first | rfl | (simp; done) | assumption) ?_))⟩ hi)) ?_
  rintro k hk
  have hbl := bnd_len (l.take k)
  have htl : (l.take k).length ≤ l.length := by simp; omega
  refine j_seq ?_
  refine j_region ?_
  refine jg_adr _ rfl _ rfl rfl (op_lss (.base rfl) (.base rfl)) ?_
  refine jg_nil ?_
  refine jn_keep [3, 6, 7, 8, 9] [70] (.cons rfl (.cons rfl (.cons rfl (.cons rfl (.cons rfl .nil))))) (.cons rfl .nil) ?_
  refine jn_seq (j_seq ?_)
  refine j_cond rfl (fun h3 => ?_) (fun h3 => ?_)
  · try simp at h3
    refine j_skip (jn_seq (j_seq (j_block (j_seq ?_))))
    refine j_region ?_
    refine jg_adr _ rfl _ rfl rfl (op_index Try.underlying54 ty40 (.base rfl) (.base rfl) rfl (List.getElem?_eq_getElem (by first | omega | (simp; done) | (simp; omega) | (simp at hg; omega)))) ?_
    refine jg_adr _ rfl _ rfl rfl (op_load ty40 (.base rfl)) ?_
    refine jg_os _ rfl (op_alloc _ z40 rfl rfl rfl) ?_
    refine jg_os _ rfl (op_ostore ty40 (.base rfl) rfl rfl (Lens.id _) (.tv (.base rfl))) ?_
    refine jg_nil ?_
    refine jn_keep [3, 5, 6, 7, 8] [5, 70] (.cons rfl (.cons rfl (.cons rfl (.cons rfl (.cons rfl .nil))))) (.cons rfl (.cons rfl .nil)) ?_
    refine jn_seq (j_seq ?_)
    refine j_region ?_
    refine jg_adr _ rfl _ rfl rfl (op_oload ty40 (.base rfl) rfl rfl (Lens.id _)) ?_
    refine jg_adr _ rfl _ rfl rfl (op_call (dhas_ok _) (.cons (.base rfl) .nil) rfl rfl) ?_
    refine jg_nil ?_
    refine jn_keep [3, 5, 6, 7, 8, 13] [5, 70] (.cons rfl (.cons rfl (.cons rfl (.cons rfl (.cons rfl (.cons rfl .nil)))))) (.cons rfl (.cons rfl .nil)) ?_
    refine jn_seq ?_
    refine j_cond rfl (fun h5 => ?_) (fun h5 => ?_)
    · have hs := bnd_succ (l := l) (k := k) (by omega)
      rw [if_pos h5] at hs
      refine j_region ?_
      refine jg_adr _ rfl _ rfl rfl (op_move (.base rfl)) ?_
      refine jg_adr _ rfl _ rfl rfl (op_ofield fld40_0 (.base rfl)) ?_
      refine jg_adr _ rfl _ rfl rfl (op_oload ty3 (.base rfl) rfl rfl ln40_0) ?_
      refine jg_adr _ rfl _ rfl rfl (op_ofield fld40_1 (.base rfl)) ?_
      refine jg_adr _ rfl _ rfl rfl (op_oload ty3 (.base rfl) rfl rfl ln40_1) ?_
      refine jg_adr _ rfl _ rfl rfl (op_bslice (rt := (rInt .i64)) Try.underlying37 ty3 z3 rfl (.cons (.raw (.base rfl) rfl) (.cons (.raw (.base rfl) rfl) .nil)) rfl rfl) ?_
      refine jg_os _ rfl (op_append [6, 7, 8] Try.underlying37 ty3 z3 rfl by3 (.base rfl) rfl (by (try simp); try omega) (.tv (.base rfl)) (by unfold maxLen; (try simp); try omega) (by (try simp); try omega) rfl (.cons rfl (.cons rfl (.cons rfl .nil))) rfl) ?_
      refine jg_adr _ rfl _ rfl rfl (op_assign (.base rfl)) ?_
      refine jg_nil ?_
      refine jn_keep [3, 6, 7, 8] [70] (.cons rfl (.cons rfl (.cons rfl (.cons rfl .nil)))) (.cons rfl .nil) ?_
      refine jn_blk (jn_seq ?_)
      refine j_region ?_
      refine jg_adr _ rfl _ rfl rfl (op_add (.base rfl) (.base rfl) (w64 (by omega))) ?_
      refine jg_adr _ rfl _ rfl rfl (op_move (.base rfl)) ?_
      refine jg_nil ?_
      refine jn_keep [3, 6, 7, 8] [70] (.cons rfl (.cons rfl (.cons rfl (.cons rfl .nil)))) (.cons rfl .nil) ?_
      exact jn_loop (fun a w hi => ⟨k + 1, (by omega), (by omega), Sub.inv ⟨(by repeat (first | exact SubS_nil | refine SubS_cons rfl (by first | rfl | exact congrArg (SV.own 70 (rInt .i64).n 0) (by rw [hs]; try simp; try omega)) ?_)), (by repeat (first | exact SubH_nil | refine SubH_cons rfl (by first | rfl | (refine congrArg (HB.mk (rInt .i64)) ?_; rw [hs]; try (simp only [List.drop_zero, List.take_of_length_le (Nat.le_refl _), List.append_nil]); first | done | rfl | (simp; done))) ?_))⟩ hi⟩)
    · have hs := bnd_succ (l := l) (k := k) (by omega)
      rw [if_neg (by rw [h5]; simp), List.append_nil] at hs
      refine j_skip (jn_blk (jn_seq ?_))
      refine j_region ?_
      refine jg_adr _ rfl _ rfl rfl (op_add (.base rfl) (.base rfl) (w64 (by omega))) ?_
      refine jg_adr _ rfl _ rfl rfl (op_move (.base rfl)) ?_
      refine jg_nil ?_
      refine jn_keep [3, 6, 7, 8] [70] (.cons rfl (.cons rfl (.cons rfl (.cons rfl .nil)))) (.cons rfl .nil) ?_
      exact jn_loop (fun a w hi => ⟨k + 1, (by omega), (by omega), Sub.inv ⟨(by repeat (first | exact SubS_nil | refine SubS_cons rfl (by first | rfl | exact congrArg (SV.own 70 (rInt .i64).n 0) (by rw [hs]; try simp; try omega)) ?_)), (by repeat (first | exact SubH_nil | refine SubH_cons rfl (by first | rfl | (refine congrArg (HB.mk (rInt .i64)) ?_; rw [hs]; try (simp only [List.drop_zero, List.take_of_length_le (Nat.le_refl _), List.append_nil]); first | done | rfl | (simp; done))) ?_))⟩ hi⟩)
  · try simp at h3
    refine j_exit (je_seq (je_loop (je_blk (jn_seq (j_seq ?_)))))
    have hkk : k = l.length := by omega
    subst hkk
    refine j_region ?_
    refine jg_adr _ rfl _ rfl rfl (op_move (.base rfl)) ?_
    refine jg_os _ rfl (op_turn0d turn_sort (.base rfl) rfl (by rfl) (by omega) (fun _ => rfl) rfl) ?_
    refine jg_nil ?_
    refine jn_keep [3] [70] (.cons rfl .nil) (.cons rfl .nil) ?_
    refine jn_seq (j_seq ?_)
    refine j_region ?_
    refine jg_adr _ rfl _ rfl rfl (op_move (.base rfl)) ?_
    refine jg_os _ rfl (op_turn1 turn_compact (.base rfl) rfl (by rw [List.length_mergeSort]) (by rw [List.length_mergeSort]; omega) rfl) ?_
    refine jg_adr _ rfl _ rfl rfl (op_assign (.base rfl)) ?_
    refine jg_nil ?_
    refine jn_keep [2] [70] (.cons rfl .nil) (.cons rfl .nil) ?_
    refine jn_seq (j_ret ?_)
    exact jr_finO Try.results28 rfl rfl (by rw [cptZ_len, Nat.zero_add]; exact Lib.compact_length_le _) (by simp only [List.drop_zero, List.take_of_length_le (Nat.le_refl _), cpt_take]; rfl)

def keepB (r : Int) (f : TFact) : Bool := decide (f.2.2.2.2.2 ≤ r) && hasD f.2.2.2.2.1
def rngB (q : TFact → Bool) (l : List TFact) : List Rg := (l.filter q).map fun f => f.2.2.2.2.1
theorem filt_succ {q : TFact → Bool} {l : List TFact} {k : Nat} (h : k < l.length) : (l.take (k + 1)).filter q = (l.take k).filter q ++ if q l[k] = true then [l[k]] else [] := by
  rw [← List.take_append_getElem h, List.filter_append]; congr 1; simp only [List.filter_cons, List.filter_nil]
theorem rng_succ {q : TFact → Bool} {l : List TFact} {k : Nat} (h : k < l.length) : rngB q (l.take (k + 1)) = rngB q (l.take k) ++ if q l[k] = true then [l[k].2.2.2.2.1] else [] := by
  unfold rngB; rw [filt_succ h, List.map_append]; split <;> simp
theorem rng_len (q : TFact → Bool) (l : List TFact) : (rngB q l).length ≤ l.length := by unfold rngB; rw [List.length_map]; exact List.length_filter_le _ _
theorem rng_lenk (q : TFact → Bool) (l : List TFact) (k : Nat) : (rngB q (l.take k)).length ≤ k := Nat.le_trans (rng_len q _) (by simp; omega)
theorem filtI_t {p : Int → Bool} {l : List Int} {k : Nat} (hk : k < l.length) (h : p l[k] = true) : (l.take (k + 1)).filter p = (l.take k).filter p ++ [l[k]] := by rw [← List.take_append_getElem hk, List.filter_append]; simp [h]
theorem filtI_f {p : Int → Bool} {l : List Int} {k : Nat} (hk : k < l.length) (h : p l[k] = false) : (l.take (k + 1)).filter p = (l.take k).filter p := by rw [← List.take_append_getElem hk, List.filter_append]; simp [h]
def inD (d : Int) : Bool := decide (1 ≤ d) && decide (d ≤ 109572)
theorem bndU_len (l : List Rg) : (uniqS (bnd l)).length ≤ 2 * l.length := Nat.le_trans (uniqS_len _) (bnd_len l)
/-- the two ChangeDates agree -/
theorem chg_eq (r : Int) (l : List TFact) : (uniqS (bnd (rngB (keepB r) l))).filter inD = chgF r l := by
  refine (uniqS_eq ((uniqS_ok _).1.filter _) fun x => ?_).symm
  rw [List.mem_filter, (uniqS_ok _).2, bnd_mem]
  unfold ptsL rngB
  simp only [List.mem_flatMap, List.mem_map, List.mem_filter, inD, Bool.and_eq_true, decide_eq_true_eq]
  constructor
  · rintro ⟨⟨_, ⟨f, ⟨hf, hq⟩, rfl⟩, hd, hx⟩, h1, h2⟩
    refine ⟨f, hf, ?_⟩
    simp only [keepB, Bool.and_eq_true, decide_eq_true_eq] at hq
    unfold ptsF
    rw [if_pos hq]
    rcases hx with rfl | rfl
    · rw [if_pos h1]; simp
    · rw [if_pos h2]; simp
  · rintro ⟨f, hf, hx⟩
    unfold ptsF at hx
    split at hx
    · rename_i hq
      have hd := hasD_iff.1 hq.2
      refine ⟨⟨_, ⟨f, ⟨hf, by simp [keepB, hq.1, hq.2]⟩, rfl⟩, hq.2, ?_⟩, ?_⟩
      · rcases List.mem_append.1 hx with hx | hx <;> split at hx <;> simp at hx <;> simp [hx]
      · rcases List.mem_append.1 hx with hx | hx <;> split at hx <;> simp at hx <;> subst hx <;> omega
    · simp at hx

theorem change_ok (l : List TFact) (r : Int) (hlm : l.length ≤ 10000) : Ct Try.prog 16 [.tv (rSlice rFact) l, .raw (.int .i64 r)] (.tv (rSlice (rInt .i64)) (chgF r l)) := by
  refine ct_intro Try.func16 rfl rfl Try.ntmps16 rfl rfl ?_
  intro w0 ok0
  refine j_len 0 rfl (fun hl0 => ?_)
  refine j_seq ?_
  refine j_region ?_
  refine jg_adr _ rfl _ rfl rfl (op_assign (.base rfl)) ?_
  refine jg_nil ?_
  refine jn_keep [0, 1] [] (.cons rfl (.cons rfl .nil)) .nil ?_
  refine jn_seq (j_seq ?_)
  refine j_region ?_
  refine jg_adr _ rfl _ rfl rfl (op_assign (.base rfl)) ?_
  refine jg_nil ?_
  refine jn_keep [0, 1, 5] [] (.cons rfl (.cons rfl (.cons rfl .nil))) .nil ?_
  refine jn_seq (j_seq (j_seq ?_))
  refine j_region ?_
  refine jg_adr _ rfl _ rfl rfl (op_move (.base rfl)) ?_
  refine jg_adr _ rfl _ rfl rfl (op_len Try.underlying22 (.base rfl)) ?_
  refine jg_adr _ rfl _ rfl rfl (op_move (.base rfl)) ?_
  refine jg_nil ?_
  refine jn_keep [1, 5, 11, 12, 13] [] (.cons rfl (.cons rfl (.cons rfl (.cons rfl (.cons rfl .nil))))) .nil ?_
  refine jn_seq (j_block ?_)
  refine j_vac 70 5 rDateRange rfl rfl rfl ?_
  refine j_loopp (ι := Nat) (fun k => ⟨[(1, .raw (.int .i64 (r))), (5, .own 70 rDateRange.n 0 (rngB (keepB r) (l.take k)).length), (11, .tv (rSlice rFact) l), (12, .raw (.int .i64 (l.length))), (13, .raw (.int .i64 ((k : Nat))))], [(70, ⟨rDateRange, (rngB (keepB r) (l.take k))⟩)]⟩) (fun k => k ≤ l.length) (fun k => l.length - k) 0 (Nat.zero_le _) (fun a w hi => (Sub.inv ⟨(by repeat (first | exact SubS_nil | refine SubS_cons rfl (by first | rfl | (simp; done) | assumption) ?_)), (by repeat (first | exact SubH_nil | refine SubH_cons rfl (by first | rfl | (simp; done) | assumption) ?_))⟩ hi)) ?_
  rintro k hk
  have hrl := rng_lenk (keepB r) l k
  refine j_seq ?_
  refine j_region ?_
  refine jg_adr _ rfl _ rfl rfl (op_lss (.base rfl) (.base rfl)) ?_
  refine jg_nil ?_
  refine jn_keep [1, 5, 11, 12, 13, 14] [70] (.cons rfl (.cons rfl (.cons rfl (.cons rfl (.cons rfl (.cons rfl .nil)))))) (.cons rfl .nil) ?_
  refine jn_seq (j_seq ?_)
  refine j_cond rfl (fun h3 => ?_) (fun h3 => ?_)
  · have h3 : k < l.length := by simp at h3; omega
    have hs := rng_succ (q := keepB r) h3
    refine j_skip (jn_seq (j_seq (j_block (j_seq ?_))))
    refine j_region ?_
    refine jg_adr _ rfl _ rfl rfl (op_index Try.underlying22 ty45 (.base rfl) (.base rfl) rfl (List.getElem?_eq_getElem (by first | omega | (simp; done) | (simp; omega) | (simp at hg; omega)))) ?_
    refine jg_adr _ rfl _ rfl rfl (op_load ty45 (.base rfl)) ?_
    refine jg_os _ rfl (op_alloc _ z45 rfl rfl rfl) ?_
    refine jg_os _ rfl (op_ostore ty45 (.base rfl) rfl rfl (Lens.id _) (.tv (.base rfl))) ?_
    refine jg_nil ?_
    refine jn_keep [1, 5, 7, 11, 12, 13] [7, 70] (.cons rfl (.cons rfl (.cons rfl (.cons rfl (.cons rfl (.cons rfl .nil)))))) (.cons rfl (.cons rfl .nil)) ?_
    refine jn_seq (j_seq ?_)
    refine j_region ?_
    refine jg_adr _ rfl _ rfl rfl (op_ofield fld45_5 (.base rfl)) ?_
    refine jg_adr _ rfl _ rfl rfl (op_oload ty3 (.base rfl) rfl rfl ln45_5) ?_
    refine jg_adr _ rfl _ rfl rfl (op_move (.base rfl)) ?_
    refine jg_adr _ rfl _ rfl rfl (op_leq (.base rfl) (.base rfl)) ?_
    refine jg_adr _ rfl _ rfl rfl (op_move (.base rfl)) ?_
    refine jg_gd _ _ _ _ _ _ rfl rfl rfl rfl rfl (fun hg => op_ofield fld45_4 (.base rfl)) ?_
    refine jg_gd _ _ _ _ _ _ rfl rfl rfl rfl rfl (fun hg => op_oload ty40 (.gd rfl hg) rfl rfl ln45_4) ?_
    refine jg_gd _ _ _ _ _ _ rfl rfl rfl rfl rfl (fun hg => op_call (fne_ok _) (.cons (.gd rfl hg) .nil) rfl rfl) ?_
    refine jg_adr _ rfl _ rfl rfl (op_pick_and (.base rfl) (.base rfl) rfl (by intro h; first | (rw [h]; rfl) | (rw [hg, h]; rfl) | (rw [h, hg]; rfl) | simp_all)) ?_
    refine jg_nil ?_
    refine jn_keep [1, 5, 7, 11, 12, 13, 25] [7, 70] (.cons rfl (.cons rfl (.cons rfl (.cons rfl (.cons rfl (.cons rfl (.cons rfl .nil))))))) (.cons rfl (.cons rfl .nil)) ?_
    refine jn_seq ?_
    refine j_cond rfl (fun h5 => ?_) (fun h5 => ?_)
    · have h5 : keepB r l[k] = true := by simp at h5; simp [keepB]; exact h5
      rw [if_pos h5] at hs
      refine j_region ?_
      refine jg_adr _ rfl _ rfl rfl (op_move (.base rfl)) ?_
      refine jg_adr _ rfl _ rfl rfl (op_ofield fld45_4 (.base rfl)) ?_
      refine jg_adr _ rfl _ rfl rfl (op_oload ty40 (.base rfl) rfl rfl ln45_4) ?_
      refine jg_adr _ rfl _ rfl rfl (op_bslice (rt := rDateRange) Try.underlying54 ty40 z40 rfl (.cons (.tv (.base rfl)) .nil) rfl rfl) ?_
      refine jg_os _ rfl (op_append [1, 11, 12, 13] Try.underlying54 ty40 z40 rfl by40 (.base rfl) rfl (by (try simp); try omega) (.tv (.base rfl)) (by unfold maxLen; (try simp); try omega) (by (try simp); try omega) rfl (.cons rfl (.cons rfl (.cons rfl (.cons rfl .nil)))) rfl) ?_
      refine jg_adr _ rfl _ rfl rfl (op_assign (.base rfl)) ?_
      refine jg_nil ?_
      refine jn_keep [1, 5, 11, 12, 13] [70] (.cons rfl (.cons rfl (.cons rfl (.cons rfl (.cons rfl .nil))))) (.cons rfl .nil) ?_
      refine jn_blk (jn_seq ?_)
      refine j_region ?_
      refine jg_adr _ rfl _ rfl rfl (op_add (.base rfl) (.base rfl) (w64 (by omega))) ?_
      refine jg_adr _ rfl _ rfl rfl (op_move (.base rfl)) ?_
      refine jg_nil ?_
      refine jn_keep [1, 5, 11, 12, 13] [70] (.cons rfl (.cons rfl (.cons rfl (.cons rfl (.cons rfl .nil))))) (.cons rfl .nil) ?_
      exact jn_loop (fun a w hi => ⟨k + 1, (by omega), (by omega), Sub.inv ⟨(by repeat (first | exact SubS_nil | refine SubS_cons rfl (by first | rfl | exact congrArg (SV.own 70 rDateRange.n 0) (by rw [hs]; try simp; try omega)) ?_)), (by repeat (first | exact SubH_nil | refine SubH_cons rfl (by first | rfl | (refine congrArg (HB.mk rDateRange) ?_; rw [hs]; try (simp only [List.drop_zero, List.take_of_length_le (Nat.le_refl _), List.append_nil]); first | done | rfl | (simp; done))) ?_))⟩ hi⟩)
    · have h5 : ¬ keepB r l[k] = true := by simp at h5; simp [keepB]; exact h5
      rw [if_neg h5, List.append_nil] at hs
      refine j_skip (jn_blk (jn_seq ?_))
      refine j_region ?_
      refine jg_adr _ rfl _ rfl rfl (op_add (.base rfl) (.base rfl) (w64 (by omega))) ?_
      refine jg_adr _ rfl _ rfl rfl (op_move (.base rfl)) ?_
      refine jg_nil ?_
      refine jn_keep [1, 5, 11, 12, 13] [70] (.cons rfl (.cons rfl (.cons rfl (.cons rfl (.cons rfl .nil))))) (.cons rfl .nil) ?_
      exact jn_loop (fun a w hi => ⟨k + 1, (by omega), (by omega), Sub.inv ⟨(by repeat (first | exact SubS_nil | refine SubS_cons rfl (by first | rfl | exact congrArg (SV.own 70 rDateRange.n 0) (by rw [hs]; try simp; try omega)) ?_)), (by repeat (first | exact SubH_nil | refine SubH_cons rfl (by first | rfl | (refine congrArg (HB.mk rDateRange) ?_; rw [hs]; try (simp only [List.drop_zero, List.take_of_length_le (Nat.le_refl _), List.append_nil]); first | done | rfl | (simp; done))) ?_))⟩ hi⟩)
  · have h3 : l.length ≤ k := by simp at h3; omega
    obtain rfl : l.length = k := by omega
    have hrn := rng_len (keepB r) l
    have hbn := bndU_len (rngB (keepB r) l)
    refine j_exit (je_seq (je_loop (je_blk (jn_seq (j_seq ?_)))))
    rw [List.take_length]
    refine j_region ?_
    refine jg_adr _ rfl _ rfl rfl (op_assign (.base rfl)) ?_
    refine jg_nil ?_
    refine jn_keep [5, 8] [70] (.cons rfl (.cons rfl .nil)) (.cons rfl .nil) ?_
    refine jn_seq (j_seq (j_seq ?_))
    refine j_region ?_
    refine jg_adr _ rfl _ rfl rfl (op_move (.base rfl)) ?_
    refine jg_adr _ rfl _ rfl rfl (op_callbF (bounds5O _ (by simp; omega)) (.own (.base rfl) rfl (by simp) .nil) (flat_int _)) ?_
    rw [List.drop_zero, List.take_length]
    refine jg_adr _ rfl _ rfl rfl (op_len Try.underlying37 (.base rfl)) ?_
    refine jg_adr _ rfl _ rfl rfl (op_move (.base rfl)) ?_
    refine jg_nil ?_
    refine jn_keep [8, 33, 34, 35] [] (.cons rfl (.cons rfl (.cons rfl (.cons rfl .nil)))) .nil ?_
    refine jn_seq (j_block ?_)
    refine j_vac 71 8 (rInt .i64) rfl rfl rfl ?_
    refine j_loopp (ι := Nat) (fun j => ⟨[(8, .own 71 (rInt .i64).n 0 (((uniqS (bnd (rngB (keepB r) l))).take j).filter inD).length), (33, .tv (rSlice (rInt .i64)) (uniqS (bnd (rngB (keepB r) l)))), (34, .raw (.int .i64 ((uniqS (bnd (rngB (keepB r) l))).length))), (35, .raw (.int .i64 ((j : Nat))))], [(71, ⟨rInt .i64, ((uniqS (bnd (rngB (keepB r) l))).take j).filter inD⟩)]⟩) (fun j => j ≤ (uniqS (bnd (rngB (keepB r) l))).length) (fun j => (uniqS (bnd (rngB (keepB r) l))).length - j) 0 (Nat.zero_le _) (fun a w hi => (Sub.inv ⟨(by repeat (first | exact SubS_nil | refine SubS_cons rfl (by first | rfl | (simp; done) | assumption) ?_)), (by repeat (first | exact SubH_nil | refine SubH_cons rfl (by first | rfl | (simp; done) | assumption) ?_))⟩ hi)) ?_
    rintro j hj
    have hfl : (((uniqS (bnd (rngB (keepB r) l))).take j).filter inD).length ≤ (uniqS (bnd (rngB (keepB r) l))).length := Nat.le_trans (List.length_filter_le _ _) (by simp; omega)
    refine j_seq ?_
    refine j_region ?_
    refine jg_adr _ rfl _ rfl rfl (op_lss (.base rfl) (.base rfl)) ?_
    refine jg_nil ?_
    refine jn_keep [8, 33, 34, 35, 36] [71] (.cons rfl (.cons rfl (.cons rfl (.cons rfl (.cons rfl .nil))))) (.cons rfl .nil) ?_
    refine jn_seq (j_seq ?_)
    refine j_cond rfl (fun h10 => ?_) (fun h10 => ?_)
    · have h10 : j < (uniqS (bnd (rngB (keepB r) l))).length := by simp at h10; omega
      refine j_skip (jn_seq (j_seq (j_block (j_seq ?_))))
      refine j_region ?_
      refine jg_adr _ rfl _ rfl rfl (op_index Try.underlying37 ty3 (.base rfl) (.base rfl) rfl (List.getElem?_eq_getElem (by first | omega | (simp; done) | (simp; omega) | (simp at hg; omega)))) ?_
      refine jg_adr _ rfl _ rfl rfl (op_load ty3 (.base rfl)) ?_
      refine jg_adr _ rfl _ rfl rfl (op_assign (.base rfl)) ?_
      refine jg_nil ?_
      refine jn_keep [8, 10, 33, 34, 35] [71] (.cons rfl (.cons rfl (.cons rfl (.cons rfl (.cons rfl .nil))))) (.cons rfl .nil) ?_
      refine jn_seq (j_seq ?_)
      refine j_region ?_
      refine jg_adr _ rfl _ rfl rfl (op_move (.base rfl)) ?_
      refine jg_adr _ rfl _ rfl rfl (op_geq (.base rfl) (.base rfl)) ?_
      refine jg_adr _ rfl _ rfl rfl (op_move (.base rfl)) ?_
      refine jg_gd _ _ _ _ _ _ rfl rfl rfl rfl rfl (fun hg => op_move (.base rfl)) ?_
      refine jg_gd _ _ _ _ _ _ rfl rfl rfl rfl rfl (fun hg => op_leq (.gd rfl hg) (.base rfl)) ?_
      refine jg_adr _ rfl _ rfl rfl (op_pick_and (.base rfl) (.base rfl) rfl (by intro h; first | (rw [h]; rfl) | (rw [hg, h]; rfl) | (rw [h, hg]; rfl) | simp_all)) ?_
      refine jg_nil ?_
      refine jn_keep [8, 10, 33, 34, 35, 44] [71] (.cons rfl (.cons rfl (.cons rfl (.cons rfl (.cons rfl (.cons rfl .nil)))))) (.cons rfl .nil) ?_
      refine jn_seq ?_
      refine j_cond rfl (fun h12 => ?_) (fun h12 => ?_)
      · have h12 : inD (uniqS (bnd (rngB (keepB r) l)))[j] = true := by simp at h12; simp [inD]; exact h12
        have hs := filtI_t (p := inD) h10 h12
        refine j_region ?_
        refine jg_adr _ rfl _ rfl rfl (op_move (.base rfl)) ?_
        refine jg_adr _ rfl _ rfl rfl (op_move (.base rfl)) ?_
        refine jg_adr _ rfl _ rfl rfl (op_bslice (rt := (rInt .i64)) Try.underlying37 ty3 z3 rfl (.cons (.raw (.base rfl) rfl) .nil) rfl rfl) ?_
        refine jg_os _ rfl (op_append [33, 34, 35] Try.underlying37 ty3 z3 rfl by3 (.base rfl) rfl (by (try simp); try omega) (.tv (.base rfl)) (by unfold maxLen; (try simp); try omega) (by (try simp); try omega) rfl (.cons rfl (.cons rfl (.cons rfl .nil))) rfl) ?_
        refine jg_adr _ rfl _ rfl rfl (op_assign (.base rfl)) ?_
        refine jg_nil ?_
        refine jn_keep [8, 33, 34, 35] [71] (.cons rfl (.cons rfl (.cons rfl (.cons rfl .nil)))) (.cons rfl .nil) ?_
        refine jn_blk (jn_seq ?_)
        refine j_region ?_
        refine jg_adr _ rfl _ rfl rfl (op_add (.base rfl) (.base rfl) (w64 (by omega))) ?_
        refine jg_adr _ rfl _ rfl rfl (op_move (.base rfl)) ?_
        refine jg_nil ?_
        refine jn_keep [8, 33, 34, 35] [71] (.cons rfl (.cons rfl (.cons rfl (.cons rfl .nil)))) (.cons rfl .nil) ?_
        exact jn_loop (fun a w hi => ⟨j + 1, (by omega), (by omega), Sub.inv ⟨(by repeat (first | exact SubS_nil | refine SubS_cons rfl (by first | rfl | exact congrArg (SV.own 71 (rInt .i64).n 0) (by rw [hs]; try simp; try omega)) ?_)), (by repeat (first | exact SubH_nil | refine SubH_cons rfl (by first | rfl | (refine congrArg (HB.mk (rInt .i64)) ?_; rw [hs]; try (simp only [List.drop_zero, List.take_of_length_le (Nat.le_refl _), List.append_nil]); first | done | rfl | (simp; done))) ?_))⟩ hi⟩)
      · have h12 : inD (uniqS (bnd (rngB (keepB r) l)))[j] = false := by simp at h12; simp [inD]; omega
        have hs := filtI_f (p := inD) h10 h12
        refine j_skip (jn_blk (jn_seq ?_))
        refine j_region ?_
        refine jg_adr _ rfl _ rfl rfl (op_add (.base rfl) (.base rfl) (w64 (by omega))) ?_
        refine jg_adr _ rfl _ rfl rfl (op_move (.base rfl)) ?_
        refine jg_nil ?_
        refine jn_keep [8, 33, 34, 35] [71] (.cons rfl (.cons rfl (.cons rfl (.cons rfl .nil)))) (.cons rfl .nil) ?_
        exact jn_loop (fun a w hi => ⟨j + 1, (by omega), (by omega), Sub.inv ⟨(by repeat (first | exact SubS_nil | refine SubS_cons rfl (by first | rfl | exact congrArg (SV.own 71 (rInt .i64).n 0) (by rw [hs]; try simp; try omega)) ?_)), (by repeat (first | exact SubH_nil | refine SubH_cons rfl (by first | rfl | (refine congrArg (HB.mk (rInt .i64)) ?_; rw [hs]; try (simp only [List.drop_zero, List.take_of_length_le (Nat.le_refl _), List.append_nil]); first | done | rfl | (simp; done))) ?_))⟩ hi⟩)
    · have h10 : (uniqS (bnd (rngB (keepB r) l))).length ≤ j := by simp at h10; omega
      refine j_exit (je_seq (je_loop (je_blk (jn_seq (j_seq ?_)))))
      refine j_region ?_
      refine jg_adr _ rfl _ rfl rfl (op_move (.base rfl)) ?_
      refine jg_adr _ rfl _ rfl rfl (op_assign (.base rfl)) ?_
      refine jg_nil ?_
      refine jn_keep [4] [71] (.cons rfl .nil) (.cons rfl .nil) ?_
      refine jn_seq (j_ret ?_)
      refine jr_seal (rt := rInt .i64) 71 4 (dropH 71 _) rfl rfl (by simp) (dropH_sub 71 _) (dropH_no 71 _) ?_
      exact jr_fin1 Try.results16 (res_tmp rfl) rfl (congrArg (SV.tv (rSlice (rInt .i64))) (by rw [List.drop_zero, List.take_length, List.take_of_length_le h10, chg_eq]))

/-- a segment's value is added to the periods -/
def addP (out : List TValuePeriod) (a b : Int) : Option TValue → List TValuePeriod
  | none => out
  | some v => if 0 < out.length ∧ (out.getD (out.length - 1) ((0, 0), (0, (0, 0)))).1.2 = a ∧ (out.getD (out.length - 1) ((0, 0), (0, (0, 0)))).2 = v then out.set (out.length - 1) (((out.getD (out.length - 1) ((0, 0), (0, (0, 0)))).1.1, b), (out.getD (out.length - 1) ((0, 0), (0, (0, 0)))).2) else out ++ [((a, b), v)]
theorem addP_len (out : List TValuePeriod) (a b : Int) (o : Option TValue) : (addP out a b o).length ≤ out.length + 1 := by
  unfold addP; split; omega; split <;> simp
def asV (l : List TFact) (m i r d : Int) : Option TValue := (bstF (relF m i d r) l).map fun f => f.2.2.2.1
/-- the periods of the first n segments -/
def perF (pt : Nat → Int) (v : Nat → Option TValue) (n : Nat) : List TValuePeriod := (List.range n).foldl (fun out i => addP out (pt i) (pt (i + 1)) (v i)) []
theorem perF_succ (pt : Nat → Int) (v : Nat → Option TValue) (n : Nat) : perF pt v (n + 1) = addP (perF pt v n) (pt n) (pt (n + 1)) (v n) := by unfold perF; rw [List.range_succ, List.foldl_append]; rfl
theorem perF_len (pt : Nat → Int) (v : Nat → Option TValue) : ∀ n, (perF pt v n).length ≤ n
  | 0 => by simp [perF]
  | n + 1 => by rw [perF_succ]; have := perF_len pt v n; have := addP_len (perF pt v n) (pt n) (pt (n + 1)) (v n); omega
/-- the reference's points -/
def ptR (r : Int) (l : List TFact) (i : Nat) : Int := (0 :: chgF r l).getD i 109573
def timR (l : List TFact) (m i r : Int) : List TValuePeriod := perF (ptR r l) (fun k => asV l m i r (ptR r l k)) (1 + (chgF r l).length)
theorem chgF_len (r : Int) (l : List TFact) : (chgF r l).length ≤ 2 * l.length := Nat.le_trans (uniqS_len _) (pts_len r l)

end Go.Proofs.Ytfamnoalgjkjhaa
