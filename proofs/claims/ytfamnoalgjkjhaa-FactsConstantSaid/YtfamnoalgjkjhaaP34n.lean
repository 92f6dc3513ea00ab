import Derived.Test.YtfamnoalgjkjhaaP34m
namespace Go.Proofs.Ytfamnoalgjkjhaa
open Go.Eng
set_option maxRecDepth 100000
set_option maxHeartbeats 4000000
set_option linter.unusedVariables false
set_option linter.unusedSimpArgs false

abbrev zF : TFact := (0, (0, (0, ((0, (0, 0)), ((0, 0), 0)))))
def relF (m i d r : Int) (f : TFact) : Bool := decide (f.2.1 = m) && decide (f.2.2.1 = i) && decide (f.2.2.2.2.2 ≤ r) && contR f.2.2.2.2.1 d
def stepB (p : TFact → Bool) (b : Option TFact) (f : TFact) : Option TFact := if p f then (match b with | none => some f | some c => if winB f c then some f else some c) else b
def bstF (p : TFact → Bool) (l : List TFact) : Option TFact := l.foldl (stepB p) none
def valO (b : Option TFact) : TValue := match b with | some f => f.2.2.2.1 | none => (0, (0, 0))
theorem bstF_take {p : TFact → Bool} {l : List TFact} {k : Nat} (h : k < l.length) : bstF p (l.take (k + 1)) = stepB p (bstF p (l.take k)) l[k] := by
  unfold bstF; rw [List.take_succ_eq_append_getElem h, List.foldl_append]; rfl
def BestI (p : TFact → Bool) (l : List TFact) (k : Nat) (b : Int) : Prop := k ≤ l.length ∧ ((b = -1 ∧ bstF p (l.take k) = none) ∨ (0 ≤ b ∧ b.toNat < l.length ∧ bstF p (l.take k) = some (l.getD b.toNat (0, (0, (0, ((0, (0, 0)), ((0, 0), 0))))))))
theorem best_skip {p : TFact → Bool} {l : List TFact} {k : Nat} {b : Int} (hb : BestI p l k b) (h : k < l.length) (hp : p l[k] = false) : BestI p l (k + 1) b := by
  refine ⟨h, ?_⟩
  rw [bstF_take h]; simp only [stepB, hp]; exact hb.2
theorem best_new {p : TFact → Bool} {l : List TFact} {k : Nat} {b : Int} (hb : BestI p l k b) (h : k < l.length) (hp : p l[k] = true) (hw : b < 0 ∨ winB l[k] (l.getD b.toNat (0, (0, (0, ((0, (0, 0)), ((0, 0), 0)))))) = true) : BestI p l (k + 1) (k : Int) := by
  refine ⟨h, .inr ⟨by omega, by simpa using h, ?_⟩⟩
  rw [bstF_take h]; simp only [stepB, hp, if_true]
  have e : l.getD (k : Int).toNat (0, (0, (0, ((0, (0, 0)), ((0, 0), 0))))) = l[k] := by simp [h]
  rw [e]
  rcases hb.2 with ⟨e1, e2⟩ | ⟨e1, e2, e3⟩
  · rw [e2]
  · rw [e3]; simp only; rw [if_pos (hw.resolve_left (by omega))]
theorem best_old {p : TFact → Bool} {l : List TFact} {k : Nat} {b : Int} (hb : BestI p l k b) (h : k < l.length) (hp : p l[k] = true) (hw : ¬ b < 0) (hw2 : winB l[k] (l.getD b.toNat (0, (0, (0, ((0, (0, 0)), ((0, 0), 0)))))) = false) : BestI p l (k + 1) b := by
  refine ⟨h, .inr ?_⟩
  rw [bstF_take h]; simp only [stepB, hp, if_true]
  rcases hb.2 with ⟨e1, e2⟩ | ⟨e1, e2, e3⟩
  · omega
  · refine ⟨e1, e2, ?_⟩
    rw [e3]; simp only; rw [hw2]; simp

theorem asof_ok (l : List TFact) (m i d r : Int) : Ct Try.prog 11 [.tv (rSlice rFact) l, .raw (.int .i64 (m)), .raw (.int .i64 (i)), .raw (.int .i64 (d)), .raw (.int .i64 (r))] (.tup2 (.tv rValue (valO (bstF (relF m i d r) l))) (.raw (.bool (bstF (relF m i d r) l).isSome))) := by
  refine ct_intro Try.func11 rfl rfl Try.ntmps11 rfl rfl ?_
  intro w0 ok0
  refine j_len 0 rfl (fun hl0 => ?_)
  refine j_seq ?_
  refine j_region ?_
  refine jg_os _ rfl (op_alloc _ z30 rfl rfl rfl) ?_
  refine jg_adr _ rfl _ rfl rfl (op_assign (.base rfl)) ?_
  refine jg_nil ?_
  refine jn_keep [0, 1, 2, 3, 4, 10] [10] (.cons rfl (.cons rfl (.cons rfl (.cons rfl (.cons rfl (.cons rfl .nil)))))) (.cons rfl .nil) ?_
  refine jn_seq (j_seq ?_)
  refine j_region ?_
  refine jg_adr _ rfl _ rfl rfl (op_assign (.base rfl)) ?_
  refine jg_nil ?_
  refine jn_keep [0, 1, 2, 3, 4, 10, 12] [10] (.cons rfl (.cons rfl (.cons rfl (.cons rfl (.cons rfl (.cons rfl (.cons rfl .nil))))))) (.cons rfl .nil) ?_
  refine jn_seq (j_seq (j_seq ?_))
  refine j_region ?_
  refine jg_adr _ rfl _ rfl rfl (op_move (.base rfl)) ?_
  refine jg_adr _ rfl _ rfl rfl (op_len Try.underlying22 (.base rfl)) ?_
  refine jg_adr _ rfl _ rfl rfl (op_move (.base rfl)) ?_
  refine jg_nil ?_
  refine jn_keep [0, 1, 2, 3, 4, 10, 12, 15, 16, 17] [10] (.cons rfl (.cons rfl (.cons rfl (.cons rfl (.cons rfl (.cons rfl (.cons rfl (.cons rfl (.cons rfl (.cons rfl .nil)))))))))) (.cons rfl .nil) ?_
  refine jn_seq (j_block ?_)
  refine j_loopp (ι := (Nat × Int)) (fun (k, b) => ⟨[(0, .tv (rSlice rFact) l), (1, .raw (.int .i64 (m))), (2, .raw (.int .i64 (i))), (3, .raw (.int .i64 (d))), (4, .raw (.int .i64 (r))), (10, .optr 10 rValue.n 0 0), (12, .raw (.int .i64 (b))), (15, .tv (rSlice rFact) l), (16, .raw (.int .i64 ((l.length : Nat)))), (17, .raw (.int .i64 ((k : Nat))))], [(10, ⟨rValue, [(0, (0, 0))]⟩)]⟩) (fun (k, b) => BestI (relF m i d r) l k b) (fun (k, b) => l.length - k) (0, -1) (⟨Nat.zero_le _, .inl ⟨rfl, rfl⟩⟩) (fun a w hi => (Sub.inv ⟨(by repeat (first | exact SubS_nil | refine SubS_cons rfl (by first | rfl | (simp; done) | assumption) ?_)), (by repeat (first | exact SubH_nil | refine SubH_cons rfl (by first | rfl | (simp; done) | assumption) ?_))⟩ hi)) ?_
  rintro ⟨k, b⟩ hb
  obtain ⟨hkl, hbb⟩ := id hb
  refine j_seq ?_
  refine j_region ?_
  refine jg_adr _ rfl _ rfl rfl (op_lss (.base rfl) (.base rfl)) ?_
  refine jg_nil ?_
  refine jn_keep [0, 1, 2, 3, 4, 10, 12, 15, 16, 17, 18] [10] (.cons rfl (.cons rfl (.cons rfl (.cons rfl (.cons rfl (.cons rfl (.cons rfl (.cons rfl (.cons rfl (.cons rfl (.cons rfl .nil))))))))))) (.cons rfl .nil) ?_
  refine jn_seq (j_seq ?_)
  refine j_cond rfl (fun h3 => ?_) (fun h3 => ?_)
  · have h3 : k < l.length := by simp at h3; omega
    refine j_skip (jn_seq (j_seq (j_block (j_seq ?_))))
    refine j_region ?_
    refine jg_adr _ rfl _ rfl rfl (op_move (.base rfl)) ?_
    refine jg_adr _ rfl _ rfl rfl (op_index Try.underlying22 ty45 (.base rfl) (.base rfl) rfl (List.getElem?_eq_getElem (by first | omega | (simp; done) | (simp; omega) | (simp at hg; omega)))) ?_
    refine jg_adr _ rfl _ rfl rfl (op_load ty45 (.base rfl)) ?_
    refine jg_os _ rfl (op_alloc _ z45 rfl rfl rfl) ?_
    refine jg_adr _ rfl _ rfl rfl (op_assign (.base rfl)) ?_
    refine jg_os _ rfl (op_ostore ty45 (.base rfl) rfl rfl (Lens.id _) (.tv (.base rfl))) ?_
    refine jg_nil ?_
    refine jn_keep [0, 1, 2, 3, 4, 10, 12, 13, 14, 15, 16, 17] [10, 14] (.cons rfl (.cons rfl (.cons rfl (.cons rfl (.cons rfl (.cons rfl (.cons rfl (.cons rfl (.cons rfl (.cons rfl (.cons rfl (.cons rfl .nil)))))))))))) (.cons rfl (.cons rfl .nil)) ?_
    refine jn_seq (j_seq (j_seq ?_))
    refine j_region ?_
    refine jg_adr _ rfl _ rfl rfl (op_ofield fld45_1 (.base rfl)) ?_
    refine jg_adr _ rfl _ rfl rfl (op_oload ty3 (.base rfl) rfl rfl ln45_1) ?_
    refine jg_adr _ rfl _ rfl rfl (op_move (.base rfl)) ?_
    refine jg_adr _ rfl _ rfl rfl (op_neq (.base rfl) (.base rfl)) ?_
    refine jg_adr _ rfl _ rfl rfl (op_move (.base rfl)) ?_
    refine jg_gd _ _ _ _ _ _ rfl rfl rfl rfl rfl (fun hg => op_ofield fld45_2 (.base rfl)) ?_
    refine jg_gd _ _ _ _ _ _ rfl rfl rfl rfl rfl (fun hg => op_oload ty3 (.gd rfl hg) rfl rfl ln45_2) ?_
    refine jg_gd _ _ _ _ _ _ rfl rfl rfl rfl rfl (fun hg => op_move (.base rfl)) ?_
    refine jg_gd _ _ _ _ _ _ rfl rfl rfl rfl rfl (fun hg => op_neq (.gd rfl hg) (.gd rfl hg)) ?_
    refine jg_adr _ rfl _ rfl rfl (op_pick_or (.base rfl) (.base rfl) rfl (by intro h; first | (rw [h]; rfl) | (rw [hg, h]; rfl) | (rw [h, hg]; rfl) | simp_all)) ?_
    refine jg_adr _ rfl _ rfl rfl (op_move (.base rfl)) ?_
    refine jg_gd _ _ _ _ _ _ rfl rfl rfl rfl rfl (fun hg => op_ofield fld45_5 (.base rfl)) ?_
    refine jg_gd _ _ _ _ _ _ rfl rfl rfl rfl rfl (fun hg => op_oload ty3 (.gd rfl hg) rfl rfl ln45_5) ?_
    refine jg_gd _ _ _ _ _ _ rfl rfl rfl rfl rfl (fun hg => op_move (.base rfl)) ?_
    refine jg_gd _ _ _ _ _ _ rfl rfl rfl rfl rfl (fun hg => op_gtr (.gd rfl hg) (.gd rfl hg)) ?_
    refine jg_adr _ rfl _ rfl rfl (op_pick_or (.base rfl) (.base rfl) rfl (by intro h; first | (rw [h]; rfl) | (rw [hg, h]; rfl) | (rw [h, hg]; rfl) | simp_all)) ?_
    refine jg_adr _ rfl _ rfl rfl (op_move (.base rfl)) ?_
    refine jg_gd _ _ _ _ _ _ rfl rfl rfl rfl rfl (fun hg => op_ofield fld45_4 (.base rfl)) ?_
    refine jg_gd _ _ _ _ _ _ rfl rfl rfl rfl rfl (fun hg => op_oload ty40 (.gd rfl hg) rfl rfl ln45_4) ?_
    refine jg_gd _ _ _ _ _ _ rfl rfl rfl rfl rfl (fun hg => op_move (.base rfl)) ?_
    refine jg_gd _ _ _ _ _ _ rfl rfl rfl rfl rfl (fun hg => op_call (dcont_ok _ _) (.cons (.gd rfl hg) (.cons (.gd rfl hg) .nil)) rfl rfl) ?_
    refine jg_gd _ _ _ _ _ _ rfl rfl rfl rfl rfl (fun hg => op_not (.gd rfl hg)) ?_
    refine jg_adr _ rfl _ rfl rfl (op_pick_or (.base rfl) (.base rfl) rfl (by intro h; first | (rw [h]; rfl) | (rw [hg, h]; rfl) | (rw [h, hg]; rfl) | simp_all)) ?_
    refine jg_nil ?_
    refine jn_keep [0, 1, 2, 3, 4, 10, 12, 13, 14, 15, 16, 17, 44] [10, 14] (.cons rfl (.cons rfl (.cons rfl (.cons rfl (.cons rfl (.cons rfl (.cons rfl (.cons rfl (.cons rfl (.cons rfl (.cons rfl (.cons rfl (.cons rfl .nil))))))))))))) (.cons rfl (.cons rfl .nil)) ?_
    refine jn_seq ?_
    refine j_cond rfl (fun h5 => ?_) (fun h5 => ?_)
    · have h5 : (relF m i d r) l[k] = false := by (rw [Bool.eq_false_iff]; intro q; simp [relF] at q; obtain ⟨⟨⟨q1, q2⟩, q3⟩, q4⟩ := q; simp at h5; rcases h5 with ((q5 | q5) | q5) | q5; exact q5 q1; exact q5 q2; omega; rw [q4] at q5; cases q5)
      refine j_exit (je_seq (je_blk (jn_seq ?_)))
      refine j_region ?_
      refine jg_adr _ rfl _ rfl rfl (op_add (.base rfl) (.base rfl) (w64 (by omega))) ?_
      refine jg_adr _ rfl _ rfl rfl (op_move (.base rfl)) ?_
      refine jg_nil ?_
      refine jn_keep [0, 1, 2, 3, 4, 10, 12, 15, 16, 17] [10] (.cons rfl (.cons rfl (.cons rfl (.cons rfl (.cons rfl (.cons rfl (.cons rfl (.cons rfl (.cons rfl (.cons rfl .nil)))))))))) (.cons rfl .nil) ?_
      first | (have _h := h5; have _hh : (relF m i d r) l[k] = false := _h; exact jn_loop (fun a w hi => ⟨(k + 1, b), (by first | omega | (simp; omega)), (best_skip hb (by omega) _hh), Sub.inv ⟨(by repeat (first | exact SubS_nil | refine SubS_cons rfl (by first | rfl | (simp; done) | assumption) ?_)), (by repeat (first | exact SubH_nil | refine SubH_cons rfl (by first | rfl | (simp; done) | assumption) ?_))⟩ hi⟩)) | (have _hh : b < 0 ∨ winB l[k] (l.getD b.toNat (0, (0, (0, ((0, (0, 0)), ((0, 0), 0)))))) = true := h6; exact jn_loop (fun a w hi => ⟨(k + 1, (k : Int)), (by first | omega | (simp; omega)), (best_new hb (by omega) h5 _hh), Sub.inv ⟨(by repeat (first | exact SubS_nil | refine SubS_cons rfl (by first | rfl | (simp; done) | assumption) ?_)), (by repeat (first | exact SubH_nil | refine SubH_cons rfl (by first | rfl | (simp; done) | assumption) ?_))⟩ hi⟩)) | (have _hh : ¬ b < 0 ∧ winB l[k] (l.getD b.toNat (0, (0, (0, ((0, (0, 0)), ((0, 0), 0)))))) = false := h6; exact jn_loop (fun a w hi => ⟨(k + 1, b), (by first | omega | (simp; omega)), (best_old hb (by omega) h5 _hh.1 _hh.2), Sub.inv ⟨(by repeat (first | exact SubS_nil | refine SubS_cons rfl (by first | rfl | (simp; done) | assumption) ?_)), (by repeat (first | exact SubH_nil | refine SubH_cons rfl (by first | rfl | (simp; done) | assumption) ?_))⟩ hi⟩))
    · have h5 : (relF m i d r) l[k] = true := by simp at h5; simp [relF]; simp_all
      refine j_skip (jn_seq (j_seq ?_))
      refine j_draw mo (by kernel_rfl) (
        AS.cons _ _ rfl (ga_adr rfl rfl rfl (op_move (.base rfl))) (
          AS.cons _ _ rfl (ga_adr rfl rfl rfl (op_lss (.base rfl) (.base rfl))) (
          AS.cons _ _ rfl (ga_adr rfl rfl rfl (op_move (.base rfl))) (
          AS.cons _ _ rfl (ga_gd _ _ _ _ rfl rfl rfl rfl rfl (fun hg => op_oload ty45 (.base rfl) rfl rfl (Lens.id _))) (
          AS.cons _ _ rfl (ga_gd _ _ _ _ rfl rfl rfl rfl rfl (fun hg => op_move (.base rfl))) (
          AS.cons _ _ rfl (ga_gd _ _ _ _ rfl rfl rfl rfl rfl (fun hg => op_move (.base rfl))) (
          AS.cons _ _ rfl (ga_gd _ _ _ _ rfl rfl rfl rfl rfl (fun hg => op_index Try.underlying22 ty45 (.gd rfl hg) (.gd rfl hg) (show b = ((b.toNat : Nat) : Int) from by simp at hg; omega) (getD_some (z := ((0, (0, (0, ((0, (0, 0)), ((0, 0), 0))))) : TFact)) (by first | omega | (simp; done) | (simp; omega) | (simp at hg; omega) | (simp at hg; simp; omega))))) (
          AS.cons _ _ rfl (ga_gd _ _ _ _ rfl rfl rfl rfl rfl (fun hg => op_load ty45 (.gd rfl hg))) (
          AS.cons _ _ rfl (ga_gd _ _ _ _ rfl rfl rfl rfl rfl (fun hg => op_call (wins_ok _ _) (.cons (.gd rfl hg) (.cons (.gd rfl hg) .nil)) rfl rfl)) (
          AS.cons _ _ rfl (ga_adr rfl rfl rfl (op_pick_or (.base rfl) (.base rfl) rfl (by intro h; first | (rw [h]; rfl) | (rw [hg, h]; rfl) | (rw [h, hg]; rfl) | simp_all))) (
          AS.nil))))))))))) ?_
      refine jn_keep [0, 1, 2, 3, 4, 10, 12, 13, 15, 16, 17, 54] [10] (.cons rfl (.cons rfl (.cons rfl (.cons rfl (.cons rfl (.cons rfl (.cons rfl (.cons rfl (.cons rfl (.cons rfl (.cons rfl (.cons rfl .nil)))))))))))) (.cons rfl .nil) ?_
      refine jn_seq ?_
      refine j_cond rfl (fun h6 => ?_) (fun h6 => ?_)
      · have h6 : b < 0 ∨ winB l[k] (l.getD b.toNat (0, (0, (0, ((0, (0, 0)), ((0, 0), 0)))))) = true := by simpa using h6
        refine j_region ?_
        refine jg_adr _ rfl _ rfl rfl (op_move (.base rfl)) ?_
        refine jg_adr _ rfl _ rfl rfl (op_assign (.base rfl)) ?_
        refine jg_nil ?_
        refine jn_keep [0, 1, 2, 3, 4, 10, 12, 15, 16, 17] [10] (.cons rfl (.cons rfl (.cons rfl (.cons rfl (.cons rfl (.cons rfl (.cons rfl (.cons rfl (.cons rfl (.cons rfl .nil)))))))))) (.cons rfl .nil) ?_
        refine jn_blk (jn_seq ?_)
        refine j_region ?_
        refine jg_adr _ rfl _ rfl rfl (op_add (.base rfl) (.base rfl) (w64 (by omega))) ?_
        refine jg_adr _ rfl _ rfl rfl (op_move (.base rfl)) ?_
        refine jg_nil ?_
        refine jn_keep [0, 1, 2, 3, 4, 10, 12, 15, 16, 17] [10] (.cons rfl (.cons rfl (.cons rfl (.cons rfl (.cons rfl (.cons rfl (.cons rfl (.cons rfl (.cons rfl (.cons rfl .nil)))))))))) (.cons rfl .nil) ?_
        first | (have _h := h5; have _hh : (relF m i d r) l[k] = false := _h; exact jn_loop (fun a w hi => ⟨(k + 1, b), (by first | omega | (simp; omega)), (best_skip hb (by omega) _hh), Sub.inv ⟨(by repeat (first | exact SubS_nil | refine SubS_cons rfl (by first | rfl | (simp; done) | assumption) ?_)), (by repeat (first | exact SubH_nil | refine SubH_cons rfl (by first | rfl | (simp; done) | assumption) ?_))⟩ hi⟩)) | (have _hh : b < 0 ∨ winB l[k] (l.getD b.toNat (0, (0, (0, ((0, (0, 0)), ((0, 0), 0)))))) = true := h6; exact jn_loop (fun a w hi => ⟨(k + 1, (k : Int)), (by first | omega | (simp; omega)), (best_new hb (by omega) h5 _hh), Sub.inv ⟨(by repeat (first | exact SubS_nil | refine SubS_cons rfl (by first | rfl | (simp; done) | assumption) ?_)), (by repeat (first | exact SubH_nil | refine SubH_cons rfl (by first | rfl | (simp; done) | assumption) ?_))⟩ hi⟩)) | (have _hh : ¬ b < 0 ∧ winB l[k] (l.getD b.toNat (0, (0, (0, ((0, (0, 0)), ((0, 0), 0)))))) = false := h6; exact jn_loop (fun a w hi => ⟨(k + 1, b), (by first | omega | (simp; omega)), (best_old hb (by omega) h5 _hh.1 _hh.2), Sub.inv ⟨(by repeat (first | exact SubS_nil | refine SubS_cons rfl (by first | rfl | (simp; done) | assumption) ?_)), (by repeat (first | exact SubH_nil | refine SubH_cons rfl (by first | rfl | (simp; done) | assumption) ?_))⟩ hi⟩))
      · have h6 : ¬ b < 0 ∧ winB l[k] (l.getD b.toNat (0, (0, (0, ((0, (0, 0)), ((0, 0), 0)))))) = false := by (simp at h6 ⊢; exact h6)
        refine j_skip (jn_blk (jn_seq ?_))
        refine j_region ?_
        refine jg_adr _ rfl _ rfl rfl (op_add (.base rfl) (.base rfl) (w64 (by omega))) ?_
        refine jg_adr _ rfl _ rfl rfl (op_move (.base rfl)) ?_
        refine jg_nil ?_
        refine jn_keep [0, 1, 2, 3, 4, 10, 12, 15, 16, 17] [10] (.cons rfl (.cons rfl (.cons rfl (.cons rfl (.cons rfl (.cons rfl (.cons rfl (.cons rfl (.cons rfl (.cons rfl .nil)))))))))) (.cons rfl .nil) ?_
        first | (have _h := h5; have _hh : (relF m i d r) l[k] = false := _h; exact jn_loop (fun a w hi => ⟨(k + 1, b), (by first | omega | (simp; omega)), (best_skip hb (by omega) _hh), Sub.inv ⟨(by repeat (first | exact SubS_nil | refine SubS_cons rfl (by first | rfl | (simp; done) | assumption) ?_)), (by repeat (first | exact SubH_nil | refine SubH_cons rfl (by first | rfl | (simp; done) | assumption) ?_))⟩ hi⟩)) | (have _hh : b < 0 ∨ winB l[k] (l.getD b.toNat (0, (0, (0, ((0, (0, 0)), ((0, 0), 0)))))) = true := h6; exact jn_loop (fun a w hi => ⟨(k + 1, (k : Int)), (by first | omega | (simp; omega)), (best_new hb (by omega) h5 _hh), Sub.inv ⟨(by repeat (first | exact SubS_nil | refine SubS_cons rfl (by first | rfl | (simp; done) | assumption) ?_)), (by repeat (first | exact SubH_nil | refine SubH_cons rfl (by first | rfl | (simp; done) | assumption) ?_))⟩ hi⟩)) | (have _hh : ¬ b < 0 ∧ winB l[k] (l.getD b.toNat (0, (0, (0, ((0, (0, 0)), ((0, 0), 0)))))) = false := h6; exact jn_loop (fun a w hi => ⟨(k + 1, b), (by first | omega | (simp; omega)), (best_old hb (by omega) h5 _hh.1 _hh.2), Sub.inv ⟨(by repeat (first | exact SubS_nil | refine SubS_cons rfl (by first | rfl | (simp; done) | assumption) ?_)), (by repeat (first | exact SubH_nil | refine SubH_cons rfl (by first | rfl | (simp; done) | assumption) ?_))⟩ hi⟩))
  · have h3 : l.length ≤ k := by simp at h3; omega
    refine j_exit (je_seq (je_loop (je_blk (jn_seq (j_seq (j_seq ?_))))))
    refine j_region ?_
    refine jg_adr _ rfl _ rfl rfl (op_move (.base rfl)) ?_
    refine jg_adr _ rfl _ rfl rfl (op_lss (.base rfl) (.base rfl)) ?_
    refine jg_nil ?_
    refine jn_keep [0, 10, 12, 58] [10] (.cons rfl (.cons rfl (.cons rfl (.cons rfl .nil)))) (.cons rfl .nil) ?_
    refine jn_seq ?_
    refine j_cond rfl (fun h9 => ?_) (fun h9 => ?_)
    · have h9 : b < 0 := by simpa using h9
      have eb : bstF (relF m i d r) l = none := by (have := hbb; rw [show k = l.length from by omega, List.take_length] at this; rcases this with q | q; exact q.2; omega)
      refine j_seq ?_
      refine j_region ?_
      refine jg_adr _ rfl _ rfl rfl (op_build z30 rfl pl30 .nil) ?_
      refine jg_os _ rfl (op_ostore ty30 (.base rfl) rfl rfl (Lens.id _) (.tv (.base rfl))) ?_
      refine jg_adr _ rfl _ rfl rfl (op_assign (.base rfl)) ?_
      refine jg_nil ?_
      refine jn_keep [10, 11] [10] (.cons rfl (.cons rfl .nil)) (.cons rfl .nil) ?_
      refine jn_seq (j_ret (jr_seq ?_))
      exact jr_fin2 Try.results11 (res_cell ty30 rfl rfl rfl (Lens.id rValue)) (res_tmp rfl) ⟨rfl, rfl⟩ (by rw [eb]; rfl)
    · have h9 : 0 ≤ b := by simpa using h9
      have eb : b.toNat < l.length ∧ bstF (relF m i d r) l = some (l.getD b.toNat (0, (0, (0, ((0, (0, 0)), ((0, 0), 0)))))) := by (have := hbb; rw [show k = l.length from by omega, List.take_length] at this; rcases this with q | q; omega; exact ⟨q.2.1, q.2.2⟩)
      refine j_skip (jn_seq (j_seq ?_))
      refine j_region ?_
      refine jg_adr _ rfl _ rfl rfl (op_move (.base rfl)) ?_
      refine jg_adr _ rfl _ rfl rfl (op_move (.base rfl)) ?_
      refine jg_adr _ rfl _ rfl rfl (op_index Try.underlying22 ty45 (.base rfl) (.base rfl) (show b = ((b.toNat : Nat) : Int) from by omega) (List.getElem?_eq_getElem (by first | omega | (simp; done) | (simp; omega) | (simp at hg; omega)))) ?_
      refine jg_adr _ rfl _ rfl rfl (op_field fld45_3 ln45_3 (.base rfl)) ?_
      refine jg_adr _ rfl _ rfl rfl (op_load ty30 (.base rfl)) ?_
      refine jg_os _ rfl (op_ostore ty30 (.base rfl) rfl rfl (Lens.id _) (.tv (.base rfl))) ?_
      refine jg_adr _ rfl _ rfl rfl (op_assign (.base rfl)) ?_
      refine jg_nil ?_
      refine jn_keep [10, 11] [10] (.cons rfl (.cons rfl .nil)) (.cons rfl .nil) ?_
      refine jn_seq (j_ret ?_)
      exact jr_fin2 Try.results11 (res_cell ty30 rfl rfl rfl (Lens.id rValue)) (res_tmp rfl) ⟨rfl, rfl⟩ (by rw [eb.2]; simp [valO, eb.1]; rfl)

theorem rasof_ok (l : List TFact) (m i d r : Int) : Ct Try.prog 12 [.tv (rSlice rFact) l, .raw (.int .i64 (m)), .raw (.int .i64 (i)), .raw (.int .i64 (d)), .raw (.int .i64 (r))] (.tup2 (.tv rValue (valO (bstF (relF m i d r) l))) (.raw (.bool (bstF (relF m i d r) l).isSome))) := by
  refine ct_intro Try.func12 rfl rfl Try.ntmps12 rfl rfl ?_
  intro w0 ok0
  refine j_len 0 rfl (fun hl0 => ?_)
  refine j_seq ?_
  refine j_region ?_
  refine jg_os _ rfl (op_alloc _ z30 rfl rfl rfl) ?_
  refine jg_adr _ rfl _ rfl rfl (op_assign (.base rfl)) ?_
  refine jg_nil ?_
  refine jn_keep [0, 1, 2, 3, 4, 10] [10] (.cons rfl (.cons rfl (.cons rfl (.cons rfl (.cons rfl (.cons rfl .nil)))))) (.cons rfl .nil) ?_
  refine jn_seq (j_seq ?_)
  refine j_region ?_
  refine jg_adr _ rfl _ rfl rfl (op_assign (.base rfl)) ?_
  refine jg_nil ?_
  refine jn_keep [0, 1, 2, 3, 4, 10, 12] [10] (.cons rfl (.cons rfl (.cons rfl (.cons rfl (.cons rfl (.cons rfl (.cons rfl .nil))))))) (.cons rfl .nil) ?_
  refine jn_seq (j_seq (j_seq ?_))
  refine j_region ?_
  refine jg_adr _ rfl _ rfl rfl (op_assign (.base rfl)) ?_
  refine jg_nil ?_
  refine jn_keep [0, 1, 2, 3, 4, 10, 12, 13] [10] (.cons rfl (.cons rfl (.cons rfl (.cons rfl (.cons rfl (.cons rfl (.cons rfl (.cons rfl .nil)))))))) (.cons rfl .nil) ?_
  refine jn_seq (j_block ?_)
  refine j_loopp (ι := (Nat × Int)) (fun (k, b) => ⟨[(0, .tv (rSlice rFact) l), (1, .raw (.int .i64 (m))), (2, .raw (.int .i64 (i))), (3, .raw (.int .i64 (d))), (4, .raw (.int .i64 (r))), (10, .optr 10 rValue.n 0 0), (12, .raw (.int .i64 (b))), (13, .raw (.int .i64 ((k : Nat))))], [(10, ⟨rValue, [(0, (0, 0))]⟩)]⟩) (fun (k, b) => BestI (relF m i d r) l k b) (fun (k, b) => l.length - k) (0, -1) (⟨Nat.zero_le _, .inl ⟨rfl, rfl⟩⟩) (fun a w hi => (Sub.inv ⟨(by repeat (first | exact SubS_nil | refine SubS_cons rfl (by first | rfl | (simp; done) | assumption) ?_)), (by repeat (first | exact SubH_nil | refine SubH_cons rfl (by first | rfl | (simp; done) | assumption) ?_))⟩ hi)) ?_
  rintro ⟨k, b⟩ hb
  obtain ⟨hkl, hbb⟩ := id hb
  refine j_seq (j_seq ?_)
  refine j_region ?_
  refine jg_adr _ rfl _ rfl rfl (op_move (.base rfl)) ?_
  refine jg_adr _ rfl _ rfl rfl (op_move (.base rfl)) ?_
  refine jg_adr _ rfl _ rfl rfl (op_len Try.underlying22 (.base rfl)) ?_
  refine jg_adr _ rfl _ rfl rfl (op_lss (.base rfl) (.base rfl)) ?_
  refine jg_nil ?_
  refine jn_keep [0, 1, 2, 3, 4, 10, 12, 13, 18] [10] (.cons rfl (.cons rfl (.cons rfl (.cons rfl (.cons rfl (.cons rfl (.cons rfl (.cons rfl (.cons rfl .nil))))))))) (.cons rfl .nil) ?_
  refine jn_seq ?_
  refine j_cond rfl (fun h3 => ?_) (fun h3 => ?_)
  · have h3 : k < l.length := by simp at h3; omega
    refine j_skip (jn_seq (j_seq (j_block (j_seq ?_))))
    refine j_region ?_
    refine jg_adr _ rfl _ rfl rfl (op_move (.base rfl)) ?_
    refine jg_adr _ rfl _ rfl rfl (op_move (.base rfl)) ?_
    refine jg_adr _ rfl _ rfl rfl (op_index Try.underlying22 ty45 (.base rfl) (.base rfl) rfl (List.getElem?_eq_getElem (by first | omega | (simp; done) | (simp; omega) | (simp at hg; omega)))) ?_
    refine jg_adr _ rfl _ rfl rfl (op_load ty45 (.base rfl)) ?_
    refine jg_os _ rfl (op_alloc _ z45 rfl rfl rfl) ?_
    refine jg_os _ rfl (op_ostore ty45 (.base rfl) rfl rfl (Lens.id _) (.tv (.base rfl))) ?_
    refine jg_nil ?_
    refine jn_keep [0, 1, 2, 3, 4, 10, 12, 13, 14] [10, 14] (.cons rfl (.cons rfl (.cons rfl (.cons rfl (.cons rfl (.cons rfl (.cons rfl (.cons rfl (.cons rfl .nil))))))))) (.cons rfl (.cons rfl .nil)) ?_
    refine jn_seq (j_seq (j_seq ?_))
    refine j_region ?_
    refine jg_adr _ rfl _ rfl rfl (op_ofield fld45_1 (.base rfl)) ?_
    refine jg_adr _ rfl _ rfl rfl (op_oload ty3 (.base rfl) rfl rfl ln45_1) ?_
    refine jg_adr _ rfl _ rfl rfl (op_move (.base rfl)) ?_
    refine jg_adr _ rfl _ rfl rfl (op_neq (.base rfl) (.base rfl)) ?_
    refine jg_adr _ rfl _ rfl rfl (op_move (.base rfl)) ?_
    refine jg_gd _ _ _ _ _ _ rfl rfl rfl rfl rfl (fun hg => op_ofield fld45_2 (.base rfl)) ?_
    refine jg_gd _ _ _ _ _ _ rfl rfl rfl rfl rfl (fun hg => op_oload ty3 (.gd rfl hg) rfl rfl ln45_2) ?_
    refine jg_gd _ _ _ _ _ _ rfl rfl rfl rfl rfl (fun hg => op_move (.base rfl)) ?_
    refine jg_gd _ _ _ _ _ _ rfl rfl rfl rfl rfl (fun hg => op_neq (.gd rfl hg) (.gd rfl hg)) ?_
    refine jg_adr _ rfl _ rfl rfl (op_pick_or (.base rfl) (.base rfl) rfl (by intro h; first | (rw [h]; rfl) | (rw [hg, h]; rfl) | (rw [h, hg]; rfl) | simp_all)) ?_
    refine jg_adr _ rfl _ rfl rfl (op_move (.base rfl)) ?_
    refine jg_gd _ _ _ _ _ _ rfl rfl rfl rfl rfl (fun hg => op_ofield fld45_5 (.base rfl)) ?_
    refine jg_gd _ _ _ _ _ _ rfl rfl rfl rfl rfl (fun hg => op_oload ty3 (.gd rfl hg) rfl rfl ln45_5) ?_
    refine jg_gd _ _ _ _ _ _ rfl rfl rfl rfl rfl (fun hg => op_move (.base rfl)) ?_
    refine jg_gd _ _ _ _ _ _ rfl rfl rfl rfl rfl (fun hg => op_gtr (.gd rfl hg) (.gd rfl hg)) ?_
    refine jg_adr _ rfl _ rfl rfl (op_pick_or (.base rfl) (.base rfl) rfl (by intro h; first | (rw [h]; rfl) | (rw [hg, h]; rfl) | (rw [h, hg]; rfl) | simp_all)) ?_
    refine jg_adr _ rfl _ rfl rfl (op_move (.base rfl)) ?_
    refine jg_gd _ _ _ _ _ _ rfl rfl rfl rfl rfl (fun hg => op_ofield fld45_4 (.base rfl)) ?_
    refine jg_gd _ _ _ _ _ _ rfl rfl rfl rfl rfl (fun hg => op_oload ty40 (.gd rfl hg) rfl rfl ln45_4) ?_
    refine jg_gd _ _ _ _ _ _ rfl rfl rfl rfl rfl (fun hg => op_move (.base rfl)) ?_
    refine jg_gd _ _ _ _ _ _ rfl rfl rfl rfl rfl (fun hg => op_call (drcont_ok _ _) (.cons (.gd rfl hg) (.cons (.gd rfl hg) .nil)) rfl rfl) ?_
    refine jg_gd _ _ _ _ _ _ rfl rfl rfl rfl rfl (fun hg => op_not (.gd rfl hg)) ?_
    refine jg_adr _ rfl _ rfl rfl (op_pick_or (.base rfl) (.base rfl) rfl (by intro h; first | (rw [h]; rfl) | (rw [hg, h]; rfl) | (rw [h, hg]; rfl) | simp_all)) ?_
    refine jg_nil ?_
    refine jn_keep [0, 1, 2, 3, 4, 10, 12, 13, 14, 47] [10, 14] (.cons rfl (.cons rfl (.cons rfl (.cons rfl (.cons rfl (.cons rfl (.cons rfl (.cons rfl (.cons rfl (.cons rfl .nil)))))))))) (.cons rfl (.cons rfl .nil)) ?_
    refine jn_seq ?_
    refine j_cond rfl (fun h6 => ?_) (fun h6 => ?_)
    · have h6 : (relF m i d r) l[k] = false := by (rw [Bool.eq_false_iff]; intro q; simp [relF] at q; obtain ⟨⟨⟨q1, q2⟩, q3⟩, q4⟩ := q; simp at h6; rcases h6 with ((q5 | q5) | q5) | q5; exact q5 q1; exact q5 q2; omega; rw [q4] at q5; cases q5)
      refine j_exit (je_seq (je_blk (jn_seq ?_)))
      refine j_region ?_
      refine jg_adr _ rfl _ rfl rfl (op_move (.base rfl)) ?_
      refine jg_adr _ rfl _ rfl rfl (op_add (.base rfl) (.base rfl) (w64 (by omega))) ?_
      refine jg_adr _ rfl _ rfl rfl (op_assign (.base rfl)) ?_
      refine jg_nil ?_
      refine jn_keep [0, 1, 2, 3, 4, 10, 12, 13] [10] (.cons rfl (.cons rfl (.cons rfl (.cons rfl (.cons rfl (.cons rfl (.cons rfl (.cons rfl .nil)))))))) (.cons rfl .nil) ?_
      first | (have _h := h6; have _hh : (relF m i d r) l[k] = false := _h; exact jn_loop (fun a w hi => ⟨(k + 1, b), (by first | omega | (simp; omega)), (best_skip hb (by omega) _hh), Sub.inv ⟨(by repeat (first | exact SubS_nil | refine SubS_cons rfl (by first | rfl | (simp; done) | assumption) ?_)), (by repeat (first | exact SubH_nil | refine SubH_cons rfl (by first | rfl | (simp; done) | assumption) ?_))⟩ hi⟩)) | (have _hh : b < 0 ∨ winB l[k] (l.getD b.toNat (0, (0, (0, ((0, (0, 0)), ((0, 0), 0)))))) = true := h7; exact jn_loop (fun a w hi => ⟨(k + 1, (k : Int)), (by first | omega | (simp; omega)), (best_new hb (by omega) h6 _hh), Sub.inv ⟨(by repeat (first | exact SubS_nil | refine SubS_cons rfl (by first | rfl | (simp; done) | assumption) ?_)), (by repeat (first | exact SubH_nil | refine SubH_cons rfl (by first | rfl | (simp; done) | assumption) ?_))⟩ hi⟩)) | (have _hh : ¬ b < 0 ∧ winB l[k] (l.getD b.toNat (0, (0, (0, ((0, (0, 0)), ((0, 0), 0)))))) = false := h7; exact jn_loop (fun a w hi => ⟨(k + 1, b), (by first | omega | (simp; omega)), (best_old hb (by omega) h6 _hh.1 _hh.2), Sub.inv ⟨(by repeat (first | exact SubS_nil | refine SubS_cons rfl (by first | rfl | (simp; done) | assumption) ?_)), (by repeat (first | exact SubH_nil | refine SubH_cons rfl (by first | rfl | (simp; done) | assumption) ?_))⟩ hi⟩))
    · have h6 : (relF m i d r) l[k] = true := by simp at h6; simp [relF]; simp_all
      refine j_skip (jn_seq (j_seq ?_))
      refine j_draw mo (by kernel_rfl) (
        AS.cons _ _ rfl (ga_adr rfl rfl rfl (op_move (.base rfl))) (
          AS.cons _ _ rfl (ga_adr rfl rfl rfl (op_lss (.base rfl) (.base rfl))) (
          AS.cons _ _ rfl (ga_adr rfl rfl rfl (op_move (.base rfl))) (
          AS.cons _ _ rfl (ga_gd _ _ _ _ rfl rfl rfl rfl rfl (fun hg => op_ofield fld45_5 (.base rfl))) (
          AS.cons _ _ rfl (ga_gd _ _ _ _ rfl rfl rfl rfl rfl (fun hg => op_oload ty3 (.gd rfl hg) rfl rfl ln45_5)) (
          AS.cons _ _ rfl (ga_gd _ _ _ _ rfl rfl rfl rfl rfl (fun hg => op_move (.base rfl))) (
          AS.cons _ _ rfl (ga_gd _ _ _ _ rfl rfl rfl rfl rfl (fun hg => op_move (.base rfl))) (
          AS.cons _ _ rfl (ga_gd _ _ _ _ rfl rfl rfl rfl rfl (fun hg => op_index Try.underlying22 ty45 (.gd rfl hg) (.gd rfl hg) (show b = ((b.toNat : Nat) : Int) from by simp at hg; omega) (getD_some (z := ((0, (0, (0, ((0, (0, 0)), ((0, 0), 0))))) : TFact)) (by first | omega | (simp; done) | (simp; omega) | (simp at hg; omega) | (simp at hg; simp; omega))))) (
          AS.cons _ _ rfl (ga_gd _ _ _ _ rfl rfl rfl rfl rfl (fun hg => op_field fld45_5 ln45_5 (.gd rfl hg))) (
          AS.cons _ _ rfl (ga_gd _ _ _ _ rfl rfl rfl rfl rfl (fun hg => op_load ty3 (.gd rfl hg))) (
          AS.cons _ _ rfl (ga_gd _ _ _ _ rfl rfl rfl rfl rfl (fun hg => op_gtr (.gd rfl hg) (.gd rfl hg))) (
          AS.cons _ _ rfl (ga_adr rfl rfl rfl (op_pick_or (.base rfl) (.base rfl) rfl (by intro h; first | (rw [h]; rfl) | (rw [hg, h]; rfl) | (rw [h, hg]; rfl) | simp_all))) (
          AS.cons _ _ rfl (ga_adr rfl rfl rfl (op_move (.base rfl))) (
          AS.cons _ _ rfl (ga_gd _ _ _ _ rfl rfl rfl rfl rfl (fun hg => op_ofield fld45_5 (.base rfl))) (
          AS.cons _ _ rfl (ga_gd _ _ _ _ rfl rfl rfl rfl rfl (fun hg => op_oload ty3 (.gd rfl hg) rfl rfl ln45_5)) (
          AS.cons _ _ rfl (ga_gd _ _ _ _ rfl rfl rfl rfl rfl (fun hg => op_move (.base rfl))) (
          AS.cons _ _ rfl (ga_gd _ _ _ _ rfl rfl rfl rfl rfl (fun hg => op_move (.base rfl))) (
          AS.cons _ _ rfl (ga_gd _ _ _ _ rfl rfl rfl rfl rfl (fun hg => op_index Try.underlying22 ty45 (.gd rfl hg) (.gd rfl hg) (show b = ((b.toNat : Nat) : Int) from by simp at hg; omega) (getD_some (z := ((0, (0, (0, ((0, (0, 0)), ((0, 0), 0))))) : TFact)) (by first | omega | (simp; done) | (simp; omega) | (simp at hg; omega) | (simp at hg; simp; omega))))) (
          AS.cons _ _ rfl (ga_gd _ _ _ _ rfl rfl rfl rfl rfl (fun hg => op_field fld45_5 ln45_5 (.gd rfl hg))) (
          AS.cons _ _ rfl (ga_gd _ _ _ _ rfl rfl rfl rfl rfl (fun hg => op_load ty3 (.gd rfl hg))) (
          AS.cons _ _ rfl (ga_gd _ _ _ _ rfl rfl rfl rfl rfl (fun hg => op_eql (.gd rfl hg) (.gd rfl hg))) (
          AS.cons _ _ rfl (ga_gd _ _ _ _ rfl rfl rfl rfl rfl (fun hg => op_move (.gd rfl hg))) (
          AS.cons _ _ rfl (ga_gd2 _ _ _ _ _ rfl rfl rfl rfl rfl (fun hg => op_ofield fld45_0 (.base rfl))) (
          AS.cons _ _ rfl (ga_gd2 _ _ _ _ _ rfl rfl rfl rfl rfl (fun hg => op_oload ty3 (.gd rfl hg) rfl rfl ln45_0)) (
          AS.cons _ _ rfl (ga_gd2 _ _ _ _ _ rfl rfl rfl rfl rfl (fun hg => op_move (.base rfl))) (
          AS.cons _ _ rfl (ga_gd2 _ _ _ _ _ rfl rfl rfl rfl rfl (fun hg => op_move (.base rfl))) (
          AS.cons _ _ rfl (ga_gd2 _ _ _ _ _ rfl rfl rfl rfl rfl (fun hg => op_index Try.underlying22 ty45 (.gd rfl hg) (.gd rfl hg) (show b = ((b.toNat : Nat) : Int) from by simp at hg; omega) (getD_some (z := ((0, (0, (0, ((0, (0, 0)), ((0, 0), 0))))) : TFact)) (by first | omega | (simp; done) | (simp; omega) | (simp at hg; omega) | (simp at hg; simp; omega))))) (
          AS.cons _ _ rfl (ga_gd2 _ _ _ _ _ rfl rfl rfl rfl rfl (fun hg => op_field fld45_0 ln45_0 (.gd rfl hg))) (
          AS.cons _ _ rfl (ga_gd2 _ _ _ _ _ rfl rfl rfl rfl rfl (fun hg => op_load ty3 (.gd rfl hg))) (
          AS.cons _ _ rfl (ga_gd2 _ _ _ _ _ rfl rfl rfl rfl rfl (fun hg => op_gtr (.gd rfl hg) (.gd rfl hg))) (
          AS.cons _ _ rfl (ga_gd _ _ _ _ rfl rfl rfl rfl rfl (fun hg => op_pick_and (.gd rfl hg) (.base rfl) rfl (by intro h; first | (rw [h]; rfl) | (rw [hg, h]; rfl) | (rw [h, hg]; rfl) | simp_all))) (
          AS.cons _ _ rfl (ga_adr rfl rfl rfl (op_pick_or (.base rfl) (.base rfl) rfl (by intro h; first | (rw [h]; rfl) | (rw [hg, h]; rfl) | (rw [h, hg]; rfl) | simp_all))) (
          AS.nil))))))))))))))))))))))))))))))))) ?_
      refine jn_keep [0, 1, 2, 3, 4, 10, 12, 13, 79] [10] (.cons rfl (.cons rfl (.cons rfl (.cons rfl (.cons rfl (.cons rfl (.cons rfl (.cons rfl (.cons rfl .nil))))))))) (.cons rfl .nil) ?_
      refine jn_seq ?_
      refine j_cond rfl (fun h7 => ?_) (fun h7 => ?_)
      · have h7 : b < 0 ∨ winB l[k] (l.getD b.toNat (0, (0, (0, ((0, (0, 0)), ((0, 0), 0)))))) = true := by (simp at h7; rw [List.getD_eq_getElem?_getD]; generalize (l[b.toNat]?).getD (0, (0, (0, ((0, (0, 0)), ((0, 0), 0))))) = c at h7 ⊢; unfold winB; rcases h7 with (q | q) | q; exact .inl q; exact .inr (by rw [if_neg (by omega)]; simp; omega); exact .inr (by rw [if_pos q.1]; simp; omega))
        refine j_region ?_
        refine jg_adr _ rfl _ rfl rfl (op_move (.base rfl)) ?_
        refine jg_adr _ rfl _ rfl rfl (op_assign (.base rfl)) ?_
        refine jg_nil ?_
        refine jn_keep [0, 1, 2, 3, 4, 10, 12, 13] [10] (.cons rfl (.cons rfl (.cons rfl (.cons rfl (.cons rfl (.cons rfl (.cons rfl (.cons rfl .nil)))))))) (.cons rfl .nil) ?_
        refine jn_blk (jn_seq ?_)
        refine j_region ?_
        refine jg_adr _ rfl _ rfl rfl (op_move (.base rfl)) ?_
        refine jg_adr _ rfl _ rfl rfl (op_add (.base rfl) (.base rfl) (w64 (by omega))) ?_
        refine jg_adr _ rfl _ rfl rfl (op_assign (.base rfl)) ?_
        refine jg_nil ?_
        refine jn_keep [0, 1, 2, 3, 4, 10, 12, 13] [10] (.cons rfl (.cons rfl (.cons rfl (.cons rfl (.cons rfl (.cons rfl (.cons rfl (.cons rfl .nil)))))))) (.cons rfl .nil) ?_
        first | (have _h := h6; have _hh : (relF m i d r) l[k] = false := _h; exact jn_loop (fun a w hi => ⟨(k + 1, b), (by first | omega | (simp; omega)), (best_skip hb (by omega) _hh), Sub.inv ⟨(by repeat (first | exact SubS_nil | refine SubS_cons rfl (by first | rfl | (simp; done) | assumption) ?_)), (by repeat (first | exact SubH_nil | refine SubH_cons rfl (by first | rfl | (simp; done) | assumption) ?_))⟩ hi⟩)) | (have _hh : b < 0 ∨ winB l[k] (l.getD b.toNat (0, (0, (0, ((0, (0, 0)), ((0, 0), 0)))))) = true := h7; exact jn_loop (fun a w hi => ⟨(k + 1, (k : Int)), (by first | omega | (simp; omega)), (best_new hb (by omega) h6 _hh), Sub.inv ⟨(by repeat (first | exact SubS_nil | refine SubS_cons rfl (by first | rfl | (simp; done) | assumption) ?_)), (by repeat (first | exact SubH_nil | refine SubH_cons rfl (by first | rfl | (simp; done) | assumption) ?_))⟩ hi⟩)) | (have _hh : ¬ b < 0 ∧ winB l[k] (l.getD b.toNat (0, (0, (0, ((0, (0, 0)), ((0, 0), 0)))))) = false := h7; exact jn_loop (fun a w hi => ⟨(k + 1, b), (by first | omega | (simp; omega)), (best_old hb (by omega) h6 _hh.1 _hh.2), Sub.inv ⟨(by repeat (first | exact SubS_nil | refine SubS_cons rfl (by first | rfl | (simp; done) | assumption) ?_)), (by repeat (first | exact SubH_nil | refine SubH_cons rfl (by first | rfl | (simp; done) | assumption) ?_))⟩ hi⟩))
      · have h7 : ¬ b < 0 ∧ winB l[k] (l.getD b.toNat (0, (0, (0, ((0, (0, 0)), ((0, 0), 0)))))) = false := by (simp at h7; rw [List.getD_eq_getElem?_getD]; generalize (l[b.toNat]?).getD (0, (0, (0, ((0, (0, 0)), ((0, 0), 0))))) = c at h7 ⊢; unfold winB; refine ⟨by omega, ?_⟩; split; simp; omega; simp; omega)
        refine j_skip (jn_blk (jn_seq ?_))
        refine j_region ?_
        refine jg_adr _ rfl _ rfl rfl (op_move (.base rfl)) ?_
        refine jg_adr _ rfl _ rfl rfl (op_add (.base rfl) (.base rfl) (w64 (by omega))) ?_
        refine jg_adr _ rfl _ rfl rfl (op_assign (.base rfl)) ?_
        refine jg_nil ?_
        refine jn_keep [0, 1, 2, 3, 4, 10, 12, 13] [10] (.cons rfl (.cons rfl (.cons rfl (.cons rfl (.cons rfl (.cons rfl (.cons rfl (.cons rfl .nil)))))))) (.cons rfl .nil) ?_
        first | (have _h := h6; have _hh : (relF m i d r) l[k] = false := _h; exact jn_loop (fun a w hi => ⟨(k + 1, b), (by first | omega | (simp; omega)), (best_skip hb (by omega) _hh), Sub.inv ⟨(by repeat (first | exact SubS_nil | refine SubS_cons rfl (by first | rfl | (simp; done) | assumption) ?_)), (by repeat (first | exact SubH_nil | refine SubH_cons rfl (by first | rfl | (simp; done) | assumption) ?_))⟩ hi⟩)) | (have _hh : b < 0 ∨ winB l[k] (l.getD b.toNat (0, (0, (0, ((0, (0, 0)), ((0, 0), 0)))))) = true := h7; exact jn_loop (fun a w hi => ⟨(k + 1, (k : Int)), (by first | omega | (simp; omega)), (best_new hb (by omega) h6 _hh), Sub.inv ⟨(by repeat (first | exact SubS_nil | refine SubS_cons rfl (by first | rfl | (simp; done) | assumption) ?_)), (by repeat (first | exact SubH_nil | refine SubH_cons rfl (by first | rfl | (simp; done) | assumption) ?_))⟩ hi⟩)) | (have _hh : ¬ b < 0 ∧ winB l[k] (l.getD b.toNat (0, (0, (0, ((0, (0, 0)), ((0, 0), 0)))))) = false := h7; exact jn_loop (fun a w hi => ⟨(k + 1, b), (by first | omega | (simp; omega)), (best_old hb (by omega) h6 _hh.1 _hh.2), Sub.inv ⟨(by repeat (first | exact SubS_nil | refine SubS_cons rfl (by first | rfl | (simp; done) | assumption) ?_)), (by repeat (first | exact SubH_nil | refine SubH_cons rfl (by first | rfl | (simp; done) | assumption) ?_))⟩ hi⟩))
  · have h3 : l.length ≤ k := by simp at h3; omega
    refine j_exit (je_seq (je_loop (je_blk (jn_seq (j_seq (j_seq ?_))))))
    refine j_region ?_
    refine jg_adr _ rfl _ rfl rfl (op_move (.base rfl)) ?_
    refine jg_adr _ rfl _ rfl rfl (op_lss (.base rfl) (.base rfl)) ?_
    refine jg_nil ?_
    refine jn_keep [0, 10, 12, 82] [10] (.cons rfl (.cons rfl (.cons rfl (.cons rfl .nil)))) (.cons rfl .nil) ?_
    refine jn_seq ?_
    refine j_cond rfl (fun h9 => ?_) (fun h9 => ?_)
    · have h9 : b < 0 := by simpa using h9
      have eb : bstF (relF m i d r) l = none := by (have := hbb; rw [show k = l.length from by omega, List.take_length] at this; rcases this with q | q; exact q.2; omega)
      refine j_seq ?_
      refine j_region ?_
      refine jg_adr _ rfl _ rfl rfl (op_build z30 rfl pl30 .nil) ?_
      refine jg_os _ rfl (op_ostore ty30 (.base rfl) rfl rfl (Lens.id _) (.tv (.base rfl))) ?_
      refine jg_adr _ rfl _ rfl rfl (op_assign (.base rfl)) ?_
      refine jg_nil ?_
      refine jn_keep [10, 11] [10] (.cons rfl (.cons rfl .nil)) (.cons rfl .nil) ?_
      refine jn_seq (j_ret (jr_seq ?_))
      exact jr_fin2 Try.results12 (res_cell ty30 rfl rfl rfl (Lens.id rValue)) (res_tmp rfl) ⟨rfl, rfl⟩ (by rw [eb]; rfl)
    · have h9 : 0 ≤ b := by simpa using h9
      have eb : b.toNat < l.length ∧ bstF (relF m i d r) l = some (l.getD b.toNat (0, (0, (0, ((0, (0, 0)), ((0, 0), 0)))))) := by (have := hbb; rw [show k = l.length from by omega, List.take_length] at this; rcases this with q | q; omega; exact ⟨q.2.1, q.2.2⟩)
      refine j_skip (jn_seq (j_seq ?_))
      refine j_region ?_
      refine jg_adr _ rfl _ rfl rfl (op_move (.base rfl)) ?_
      refine jg_adr _ rfl _ rfl rfl (op_move (.base rfl)) ?_
      refine jg_adr _ rfl _ rfl rfl (op_index Try.underlying22 ty45 (.base rfl) (.base rfl) (show b = ((b.toNat : Nat) : Int) from by omega) (List.getElem?_eq_getElem (by first | omega | (simp; done) | (simp; omega) | (simp at hg; omega)))) ?_
      refine jg_adr _ rfl _ rfl rfl (op_field fld45_3 ln45_3 (.base rfl)) ?_
      refine jg_adr _ rfl _ rfl rfl (op_load ty30 (.base rfl)) ?_
      refine jg_os _ rfl (op_ostore ty30 (.base rfl) rfl rfl (Lens.id _) (.tv (.base rfl))) ?_
      refine jg_adr _ rfl _ rfl rfl (op_assign (.base rfl)) ?_
      refine jg_nil ?_
      refine jn_keep [10, 11] [10] (.cons rfl (.cons rfl .nil)) (.cons rfl .nil) ?_
      refine jn_seq (j_ret ?_)
      exact jr_fin2 Try.results12 (res_cell ty30 rfl rfl rfl (Lens.id rValue)) (res_tmp rfl) ⟨rfl, rfl⟩ (by rw [eb.2]; simp [valO, eb.1]; rfl)

end Go.Proofs.Ytfamnoalgjkjhaa
