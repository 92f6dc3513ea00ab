import Derived.Test.YtemcooggkcneiaaM2
import Derived.Test.YtemcooggkcneiaaP16r
namespace Go.Proofs.Ytemcooggkcneiaa
open Go.Eng
set_option maxRecDepth 100000
set_option maxHeartbeats 4000000
set_option linter.unusedVariables false
set_option linter.unusedSimpArgs false


theorem res_nil {P : Program} {cx : Cx} {st : St} {α : Type} {rt : RT α} {t : Nat} (h : lookS st.slots t = some (.raw (.slice none 0 0))) : Res P cx st (.tmp t) (.tv (rSlice rt) []) := fun β a w hi => by
  obtain ⟨v, h1, h2⟩ := hi.slots t _ h
  have h2 : v = .slice none 0 0 := h2
  exact ⟨v, by simp [resRun, h1], by rw [h2]; exact nil_val⟩
abbrev rlD (r : TRule) : Int := r.2.1
abbrev rlG (r : TRule) : List TNode := r.2.2.2.2.2.1
abbrev rlV (r : TRule) : List TNode := r.2.2.2.2.2.2.1
abbrev scR (s : TScope) : List TRule := s.2.2.2.2
abbrev scN (s : TScope) : Nat := s.2.2.2.1.length
def inN (n : Nat) (d : Int) : Bool := decide (0 ≤ d) && decide (d < n)
/-- the existing definitions that a rule refers to -/
def rdf (n : Nat) (r : TRule) : List Int := (uniqS (refs pDef (rlG r))).filter (inN n) ++ (uniqS (refs pDef (rlV r))).filter (inN n)
def accD (n : Nat) (l : List TRule) (d : Int) : List Int := (l.filter (fun r => rlD r == d)).flatMap (rdf n)
def dirs (s : TScope) (d : Int) : List Int := if inN (scN s) d = true then uniqS (accD (scN s) (scR s) d) else []
def RLim (r : TRule) : Prop := (rlG r).length ≤ 60 ∧ (rlV r).length ≤ 60
def Lim (s : TScope) : Prop := scN s ≤ 14 ∧ (scR s).length ≤ 40 ∧ ∀ r ∈ scR s, RLim r
theorem ur_len (p : Int → Bool) (e : List TNode) : (uniqS (refs p e)).length ≤ e.length := Nat.le_trans (uniqS_len _) refs_len
theorem flt_t {p : Int → Bool} {l : List Int} {k : Nat} (h : k < l.length) (hp : p l[k] = true) : (l.take (k + 1)).filter p = (l.take k).filter p ++ [l[k]] := by
  rw [List.take_succ_eq_append_getElem h, List.filter_append]; simp [hp]
theorem flt_f {p : Int → Bool} {l : List Int} {k : Nat} (h : k < l.length) (hp : p l[k] = false) : (l.take (k + 1)).filter p = (l.take k).filter p := by
  rw [List.take_succ_eq_append_getElem h, List.filter_append]; simp [hp]
theorem flt_len (p : Int → Bool) (l : List Int) (k : Nat) : ((l.take k).filter p).length ≤ l.length := Nat.le_trans (List.length_filter_le _ _) (by simp; omega)
theorem rdf_len {n : Nat} {r : TRule} (h : RLim r) : (rdf n r).length ≤ 120 := by
  have h1 := ur_len pDef (rlG r); have h2 := ur_len pDef (rlV r)
  have h3 := List.length_filter_le (inN n) (uniqS (refs pDef (rlG r))); have h4 := List.length_filter_le (inN n) (uniqS (refs pDef (rlV r)))
  unfold rdf; rw [List.length_append]; have := h.1; have := h.2; omega
theorem accD_t {n : Nat} {l : List TRule} {d : Int} {k : Nat} (h : k < l.length) (hd : rlD l[k] = d) : accD n (l.take (k + 1)) d = accD n (l.take k) d ++ rdf n l[k] := by
  unfold accD; rw [List.take_succ_eq_append_getElem h, List.filter_append, List.flatMap_append]; simp [hd]
theorem accD_f {n : Nat} {l : List TRule} {d : Int} {k : Nat} (h : k < l.length) (hd : rlD l[k] ≠ d) : accD n (l.take (k + 1)) d = accD n (l.take k) d := by
  unfold accD; rw [List.take_succ_eq_append_getElem h, List.filter_append, List.flatMap_append]; simp [hd]
theorem accD_len {n : Nat} {l : List TRule} {d : Int} (h : ∀ r ∈ l, RLim r) : ∀ k, k ≤ l.length → (accD n (l.take k) d).length ≤ 120 * k := by
  intro k
  induction k with
  | zero => intro _; simp [accD]
  | succ k ih =>
    intro hk
    have hk' : k < l.length := by omega
    have := ih (by omega)
    by_cases e : rlD l[k] = d
    · rw [accD_t hk' e, List.length_append]; have := rdf_len (n := n) (h l[k] (List.getElem_mem hk')); omega
    · rw [accD_f hk' e]; omega

theorem defsOf_ok (r : TRule) (n : Nat) (hr : RLim r) (hn : n ≤ 1000) : Ct Try.prog 33 [.tv rRule r, .raw (.int .i64 (n : Nat))] (.tv (rSlice (rInt .i64)) (rdf n r)) := by
  refine ct_intro Try.func33 rfl rfl Try.ntmps33 rfl rfl ?_
  intro w0 ok0
  obtain ⟨hr1, hr2⟩ := hr
  have hr3 : r.2.2.2.2.2.1.length ≤ 60 := hr1
  have hr4 : r.2.2.2.2.2.2.1.length ≤ 60 := hr2
  refine j_seq ?_
  refine j_region ?_
  refine jg_os _ rfl (op_box (.tv (.base rfl)) rfl rfl rfl) ?_
  refine jg_adr _ rfl _ rfl rfl (op_assign (.base rfl)) ?_
  refine jg_nil ?_
  refine jn_keep [1, 2] [2] (.cons rfl (.cons rfl .nil)) (.cons rfl .nil) ?_
  refine jn_seq (j_seq ?_)
  refine j_region ?_
  refine jg_adr _ rfl _ rfl rfl (op_assign (.base rfl)) ?_
  refine jg_nil ?_
  refine jn_keep [1, 2, 5] [2] (.cons rfl (.cons rfl (.cons rfl .nil))) (.cons rfl .nil) ?_
  refine jn_seq (j_seq ?_)
  refine j_region ?_
  refine jg_adr _ rfl _ rfl rfl (op_ofield fld41_5 (.base rfl)) ?_
  refine jg_adr _ rfl _ rfl rfl (op_oload ty39 (.base rfl) rfl rfl ln41_5) ?_
  refine jg_adr _ rfl _ rfl rfl (op_call (refs_ok _ (by omega)) (.cons (.base rfl) .nil) rfl rfl) ?_
  refine jg_adr _ rfl _ rfl rfl (op_move (.base rfl)) ?_
  refine jg_adr _ rfl _ rfl rfl (op_ext30 (.base rfl)) ?_
  refine jg_adr _ rfl _ rfl rfl (op_ext31 (.base rfl)) ?_
  refine jg_adr _ rfl _ rfl rfl (op_ext32 (.base rfl)) ?_
  refine jg_adr _ rfl _ rfl rfl (op_assign (.base rfl)) ?_
  refine jg_adr _ rfl _ rfl rfl (op_assign (.base rfl)) ?_
  refine jg_adr _ rfl _ rfl rfl (op_assign (.base rfl)) ?_
  refine jg_nil ?_
  refine jn_keep [1, 2, 5, 7] [2] (.cons rfl (.cons rfl (.cons rfl (.cons rfl .nil)))) (.cons rfl .nil) ?_
  refine jn_seq (j_seq ?_)
  refine j_region ?_
  refine jg_adr _ rfl _ rfl rfl (op_ofield fld41_6 (.base rfl)) ?_
  refine jg_adr _ rfl _ rfl rfl (op_oload ty39 (.base rfl) rfl rfl ln41_6) ?_
  refine jg_adr _ rfl _ rfl rfl (op_call (refs_ok _ (by omega)) (.cons (.base rfl) .nil) rfl rfl) ?_
  refine jg_adr _ rfl _ rfl rfl (op_move (.base rfl)) ?_
  refine jg_adr _ rfl _ rfl rfl (op_ext30 (.base rfl)) ?_
  refine jg_adr _ rfl _ rfl rfl (op_ext31 (.base rfl)) ?_
  refine jg_adr _ rfl _ rfl rfl (op_ext32 (.base rfl)) ?_
  refine jg_adr _ rfl _ rfl rfl (op_assign (.base rfl)) ?_
  refine jg_adr _ rfl _ rfl rfl (op_assign (.base rfl)) ?_
  refine jg_adr _ rfl _ rfl rfl (op_assign (.base rfl)) ?_
  refine jg_nil ?_
  refine jn_keep [1, 5, 7, 10] [] (.cons rfl (.cons rfl (.cons rfl (.cons rfl .nil)))) .nil ?_
  refine jn_seq (j_seq (j_seq ?_))
  refine j_region ?_
  refine jg_adr _ rfl _ rfl rfl (op_move (.base rfl)) ?_
  refine jg_adr _ rfl _ rfl rfl (op_len Try.underlying28 (.base rfl)) ?_
  refine jg_adr _ rfl _ rfl rfl (op_move (.base rfl)) ?_
  refine jg_nil ?_
  refine jn_keep [1, 5, 10, 30, 31, 32] [] (.cons rfl (.cons rfl (.cons rfl (.cons rfl (.cons rfl (.cons rfl .nil)))))) .nil ?_
  refine jn_seq (j_block ?_)
  refine j_vac 70 5 (rInt .i64) rfl rfl rfl ?_
  refine j_loopp (ι := Nat) (fun k => ⟨[(1, .raw (.int .i64 ((n : Nat)))), (5, .own 70 (rInt .i64).n 0 (((uniqS (refs pDef (rlG r))).take k).filter (inN n)).length), (10, .tv (rSlice (rInt .i64)) (uniqS (refs pDef (rlV r)))), (30, .tv (rSlice (rInt .i64)) (uniqS (refs pDef (rlG r)))), (31, .raw (.int .i64 ((uniqS (refs pDef (rlG r))).length))), (32, .raw (.int .i64 ((k : Nat))))], [(70, ⟨rInt .i64, (((uniqS (refs pDef (rlG r))).take k).filter (inN n))⟩)]⟩) (fun k => k ≤ (uniqS (refs pDef (rlG r))).length) (fun k => (uniqS (refs pDef (rlG r))).length - k) 0 (Nat.zero_le _) (fun a w hi => (Sub.inv ⟨(by repeat (first | exact SubS_nil | refine SubS_cons rfl (by first | rfl | (simp; done) | assumption) ?_)), (by repeat (first | exact SubH_nil | refine SubH_cons rfl (by first | rfl | (simp; done) | assumption) ?_))⟩ hi)) ?_
  rintro k hk
  have hl1 := ur_len pDef (rlG r)
  have hl2 := ur_len pDef (rlV r)
  have hf1 := flt_len (inN n) (uniqS (refs pDef (rlG r))) k
  refine j_seq ?_
  refine j_region ?_
  refine jg_adr _ rfl _ rfl rfl (op_lss (.base rfl) (.base rfl)) ?_
  refine jg_nil ?_
  refine jn_keep [1, 5, 10, 30, 31, 32, 33] [70] (.cons rfl (.cons rfl (.cons rfl (.cons rfl (.cons rfl (.cons rfl (.cons rfl .nil))))))) (.cons rfl .nil) ?_
  refine jn_seq (j_seq ?_)
  refine j_cond rfl (fun h5 => ?_) (fun h5 => ?_)
  · have h5 : k < (uniqS (refs pDef (rlG r))).length := by simp at h5; omega
    refine j_skip (jn_seq (j_seq (j_block (j_seq ?_))))
    refine j_region ?_
    refine jg_adr _ rfl _ rfl rfl (op_index Try.underlying28 ty3 (.base rfl) (.base rfl) rfl (List.getElem?_eq_getElem (by first | omega | (simp; done) | (simp; omega) | (simp at hg; omega)))) ?_
    refine jg_adr _ rfl _ rfl rfl (op_load ty3 (.base rfl)) ?_
    refine jg_adr _ rfl _ rfl rfl (op_assign (.base rfl)) ?_
    refine jg_nil ?_
    refine jn_keep [1, 5, 10, 13, 30, 31, 32] [70] (.cons rfl (.cons rfl (.cons rfl (.cons rfl (.cons rfl (.cons rfl (.cons rfl .nil))))))) (.cons rfl .nil) ?_
    refine jn_seq (j_seq ?_)
    refine j_region ?_
    refine jg_adr _ rfl _ rfl rfl (op_move (.base rfl)) ?_
    refine jg_adr _ rfl _ rfl rfl (op_geq (.base rfl) (.base rfl)) ?_
    refine jg_adr _ rfl _ rfl rfl (op_move (.base rfl)) ?_
    refine jg_gd _ _ _ _ _ _ rfl rfl rfl rfl rfl (fun hg => op_move (.base rfl)) ?_
    refine jg_gd _ _ _ _ _ _ rfl rfl rfl rfl rfl (fun hg => op_move (.base rfl)) ?_
    refine jg_gd _ _ _ _ _ _ rfl rfl rfl rfl rfl (fun hg => op_lss (.gd rfl hg) (.gd rfl hg)) ?_
    refine jg_adr _ rfl _ rfl rfl (op_pick_and (.base rfl) (.base rfl) rfl (by intro h; first | (rw [h]; rfl) | (rw [hg, h]; rfl) | (rw [h, hg]; rfl) | simp_all)) ?_
    refine jg_nil ?_
    refine jn_keep [1, 5, 10, 13, 30, 31, 32, 42] [70] (.cons rfl (.cons rfl (.cons rfl (.cons rfl (.cons rfl (.cons rfl (.cons rfl (.cons rfl .nil)))))))) (.cons rfl .nil) ?_
    refine jn_seq ?_
    refine j_cond rfl (fun h7 => ?_) (fun h7 => ?_)
    · have hs := flt_t (p := inN n) h5 (by simp at h7; simp [inN]; omega)
      refine j_region ?_
      refine jg_adr _ rfl _ rfl rfl (op_move (.base rfl)) ?_
      refine jg_adr _ rfl _ rfl rfl (op_move (.base rfl)) ?_
      refine jg_adr _ rfl _ rfl rfl (op_bslice (rt := (rInt .i64)) Try.underlying28 ty3 z3 rfl (.cons (.raw (.base rfl) rfl) .nil) rfl rfl) ?_
      refine jg_os _ rfl (op_append [1, 10, 30, 31, 32] Try.underlying28 ty3 z3 rfl by3 (.base rfl) rfl (by (try simp); try omega) (.tv (.base rfl)) (by unfold maxLen; (try simp); try omega) (by (try simp); try omega) rfl (.cons rfl (.cons rfl (.cons rfl (.cons rfl (.cons rfl .nil))))) rfl) ?_
      refine jg_adr _ rfl _ rfl rfl (op_assign (.base rfl)) ?_
      refine jg_nil ?_
      refine jn_keep [1, 5, 10, 30, 31, 32] [70] (.cons rfl (.cons rfl (.cons rfl (.cons rfl (.cons rfl (.cons rfl .nil)))))) (.cons rfl .nil) ?_
      refine jn_blk (jn_seq ?_)
      refine j_region ?_
      refine jg_adr _ rfl _ rfl rfl (op_add (.base rfl) (.base rfl) (w64 (by omega))) ?_
      refine jg_adr _ rfl _ rfl rfl (op_move (.base rfl)) ?_
      refine jg_nil ?_
      refine jn_keep [1, 5, 10, 30, 31, 32] [70] (.cons rfl (.cons rfl (.cons rfl (.cons rfl (.cons rfl (.cons rfl .nil)))))) (.cons rfl .nil) ?_
      exact jn_loop (fun a w hi => ⟨k + 1, (by first | omega | (simp; omega)), (by omega), Sub.inv ⟨(by repeat (first | exact SubS_nil | refine SubS_cons rfl (by first | rfl | (simp; done) | assumption | (refine congrArg (SV.own 70 (rInt .i64).n 0) ?_; first | rfl | (rw [hs]; simp; done) | (rw [hs]; done))) ?_)), (by repeat (first | exact SubH_nil | refine SubH_cons rfl (by first | rfl | (simp; done) | assumption | (refine congrArg (HB.mk (rInt .i64)) ?_; first | rfl | (rw [hs]; (try simp only [List.drop_zero, List.take_length]); first | done | rfl | (simp; done); done) | (rw [hs]; done))) ?_))⟩ hi⟩)
    · have hs := flt_f (p := inN n) h5 (by simp at h7; simp [inN]; omega)
      refine j_skip (jn_blk (jn_seq ?_))
      refine j_region ?_
      refine jg_adr _ rfl _ rfl rfl (op_add (.base rfl) (.base rfl) (w64 (by omega))) ?_
      refine jg_adr _ rfl _ rfl rfl (op_move (.base rfl)) ?_
      refine jg_nil ?_
      refine jn_keep [1, 5, 10, 30, 31, 32] [70] (.cons rfl (.cons rfl (.cons rfl (.cons rfl (.cons rfl (.cons rfl .nil)))))) (.cons rfl .nil) ?_
      exact jn_loop (fun a w hi => ⟨k + 1, (by first | omega | (simp; omega)), (by omega), Sub.inv ⟨(by repeat (first | exact SubS_nil | refine SubS_cons rfl (by first | rfl | (simp; done) | assumption | (refine congrArg (SV.own 70 (rInt .i64).n 0) ?_; first | rfl | (rw [hs]; simp; done) | (rw [hs]; done))) ?_)), (by repeat (first | exact SubH_nil | refine SubH_cons rfl (by first | rfl | (simp; done) | assumption | (refine congrArg (HB.mk (rInt .i64)) ?_; first | rfl | (rw [hs]; (try simp only [List.drop_zero, List.take_length]); first | done | rfl | (simp; done); done) | (rw [hs]; done))) ?_))⟩ hi⟩)
  · have hke : k = (uniqS (refs pDef (rlG r))).length := by simp at h5; omega
    subst hke
    rw [List.take_length]
    refine j_exit (je_seq (je_loop (je_blk (jn_seq (j_seq (j_seq ?_))))))
    refine j_region ?_
    refine jg_adr _ rfl _ rfl rfl (op_move (.base rfl)) ?_
    refine jg_adr _ rfl _ rfl rfl (op_len Try.underlying28 (.base rfl)) ?_
    refine jg_adr _ rfl _ rfl rfl (op_move (.base rfl)) ?_
    refine jg_nil ?_
    refine jn_keep [1, 5, 48, 49, 50] [70] (.cons rfl (.cons rfl (.cons rfl (.cons rfl (.cons rfl .nil))))) (.cons rfl .nil) ?_
    refine jn_seq (j_block ?_)
    refine j_loopp (ι := Nat) (fun k => ⟨[(1, .raw (.int .i64 ((n : Nat)))), (5, .own 70 (rInt .i64).n 0 ((uniqS (refs pDef (rlG r))).filter (inN n) ++ ((uniqS (refs pDef (rlV r))).take k).filter (inN n)).length), (48, .tv (rSlice (rInt .i64)) (uniqS (refs pDef (rlV r)))), (49, .raw (.int .i64 ((uniqS (refs pDef (rlV r))).length))), (50, .raw (.int .i64 ((k : Nat))))], [(70, ⟨rInt .i64, ((uniqS (refs pDef (rlG r))).filter (inN n) ++ ((uniqS (refs pDef (rlV r))).take k).filter (inN n))⟩)]⟩) (fun k => k ≤ (uniqS (refs pDef (rlV r))).length) (fun k => (uniqS (refs pDef (rlV r))).length - k) 0 (Nat.zero_le _) (fun a w hi => Sub.inv ⟨(by repeat (first | exact SubS_nil | refine SubS_cons rfl (by first | rfl | (simp; done) | assumption | (refine congrArg (SV.own 70 (rInt .i64).n 0) ?_; first | rfl | (simp; done))) ?_)), (by repeat (first | exact SubH_nil | refine SubH_cons rfl (by first | rfl | (simp; done) | assumption | (refine congrArg (HB.mk (rInt .i64)) ?_; first | rfl | (simp; done))) ?_))⟩ hi) ?_
    rintro k hk
    have hl1 := ur_len pDef (rlG r)
    have hl2 := ur_len pDef (rlV r)
    have hf2 := flt_len (inN n) (uniqS (refs pDef (rlV r))) k
    have hf1 := List.length_filter_le (inN n) (uniqS (refs pDef (rlG r)))
    have hf3 : ((uniqS (refs pDef (rlG r))).filter (inN n) ++ ((uniqS (refs pDef (rlV r))).take k).filter (inN n)).length ≤ 120 := by rw [List.length_append]; omega
    refine j_seq ?_
    refine j_region ?_
    refine jg_adr _ rfl _ rfl rfl (op_lss (.base rfl) (.base rfl)) ?_
    refine jg_nil ?_
    refine jn_keep [1, 5, 48, 49, 50, 51] [70] (.cons rfl (.cons rfl (.cons rfl (.cons rfl (.cons rfl (.cons rfl .nil)))))) (.cons rfl .nil) ?_
    refine jn_seq (j_seq ?_)
    refine j_cond rfl (fun h11 => ?_) (fun h11 => ?_)
    · have h11 : k < (uniqS (refs pDef (rlV r))).length := by simp at h11; omega
      refine j_skip (jn_seq (j_seq (j_block (j_seq ?_))))
      refine j_region ?_
      refine jg_adr _ rfl _ rfl rfl (op_index Try.underlying28 ty3 (.base rfl) (.base rfl) rfl (List.getElem?_eq_getElem (by first | omega | (simp; done) | (simp; omega) | (simp at hg; omega)))) ?_
      refine jg_adr _ rfl _ rfl rfl (op_load ty3 (.base rfl)) ?_
      refine jg_adr _ rfl _ rfl rfl (op_assign (.base rfl)) ?_
      refine jg_nil ?_
      refine jn_keep [1, 5, 15, 48, 49, 50] [70] (.cons rfl (.cons rfl (.cons rfl (.cons rfl (.cons rfl (.cons rfl .nil)))))) (.cons rfl .nil) ?_
      refine jn_seq (j_seq ?_)
      refine j_region ?_
      refine jg_adr _ rfl _ rfl rfl (op_move (.base rfl)) ?_
      refine jg_adr _ rfl _ rfl rfl (op_geq (.base rfl) (.base rfl)) ?_
      refine jg_adr _ rfl _ rfl rfl (op_move (.base rfl)) ?_
      refine jg_gd _ _ _ _ _ _ rfl rfl rfl rfl rfl (fun hg => op_move (.base rfl)) ?_
      refine jg_gd _ _ _ _ _ _ rfl rfl rfl rfl rfl (fun hg => op_move (.base rfl)) ?_
      refine jg_gd _ _ _ _ _ _ rfl rfl rfl rfl rfl (fun hg => op_lss (.gd rfl hg) (.gd rfl hg)) ?_
      refine jg_adr _ rfl _ rfl rfl (op_pick_and (.base rfl) (.base rfl) rfl (by intro h; first | (rw [h]; rfl) | (rw [hg, h]; rfl) | (rw [h, hg]; rfl) | simp_all)) ?_
      refine jg_nil ?_
      refine jn_keep [1, 5, 15, 48, 49, 50, 60] [70] (.cons rfl (.cons rfl (.cons rfl (.cons rfl (.cons rfl (.cons rfl (.cons rfl .nil))))))) (.cons rfl .nil) ?_
      refine jn_seq ?_
      refine j_cond rfl (fun h13 => ?_) (fun h13 => ?_)
      · have hs := flt_t (p := inN n) h11 (by simp at h13; simp [inN]; omega)
        refine j_region ?_
        refine jg_adr _ rfl _ rfl rfl (op_move (.base rfl)) ?_
        refine jg_adr _ rfl _ rfl rfl (op_move (.base rfl)) ?_
        refine jg_adr _ rfl _ rfl rfl (op_bslice (rt := (rInt .i64)) Try.underlying28 ty3 z3 rfl (.cons (.raw (.base rfl) rfl) .nil) rfl rfl) ?_
        refine jg_os _ rfl (op_append [1, 48, 49, 50] Try.underlying28 ty3 z3 rfl by3 (.base rfl) rfl (by (try simp); try omega) (.tv (.base rfl)) (by unfold maxLen; (try simp); try omega) (by (try simp); try omega) rfl (.cons rfl (.cons rfl (.cons rfl (.cons rfl .nil)))) rfl) ?_
        refine jg_adr _ rfl _ rfl rfl (op_assign (.base rfl)) ?_
        refine jg_nil ?_
        refine jn_keep [1, 5, 48, 49, 50] [70] (.cons rfl (.cons rfl (.cons rfl (.cons rfl (.cons rfl .nil))))) (.cons rfl .nil) ?_
        refine jn_blk (jn_seq ?_)
        refine j_region ?_
        refine jg_adr _ rfl _ rfl rfl (op_add (.base rfl) (.base rfl) (w64 (by omega))) ?_
        refine jg_adr _ rfl _ rfl rfl (op_move (.base rfl)) ?_
        refine jg_nil ?_
        refine jn_keep [1, 5, 48, 49, 50] [70] (.cons rfl (.cons rfl (.cons rfl (.cons rfl (.cons rfl .nil))))) (.cons rfl .nil) ?_
        exact jn_loop (fun a w hi => ⟨k + 1, (by first | omega | (simp; omega)), (by omega), Sub.inv ⟨(by repeat (first | exact SubS_nil | refine SubS_cons rfl (by first | rfl | (simp; done) | assumption | (refine congrArg (SV.own 70 (rInt .i64).n 0) ?_; first | rfl | (rw [hs]; simp [Nat.add_assoc]; done) | (rw [hs]; done))) ?_)), (by repeat (first | exact SubH_nil | refine SubH_cons rfl (by first | rfl | (simp; done) | assumption | (refine congrArg (HB.mk (rInt .i64)) ?_; first | rfl | (rw [hs]; (try simp only [List.drop_zero, List.take_length]); first | done | rfl | (simp; done); done) | (rw [hs]; done) | (simp [hs]; done))) ?_))⟩ hi⟩)
      · have hs := flt_f (p := inN n) h11 (by simp at h13; simp [inN]; omega)
        refine j_skip (jn_blk (jn_seq ?_))
        refine j_region ?_
        refine jg_adr _ rfl _ rfl rfl (op_add (.base rfl) (.base rfl) (w64 (by omega))) ?_
        refine jg_adr _ rfl _ rfl rfl (op_move (.base rfl)) ?_
        refine jg_nil ?_
        refine jn_keep [1, 5, 48, 49, 50] [70] (.cons rfl (.cons rfl (.cons rfl (.cons rfl (.cons rfl .nil))))) (.cons rfl .nil) ?_
        exact jn_loop (fun a w hi => ⟨k + 1, (by first | omega | (simp; omega)), (by omega), Sub.inv ⟨(by repeat (first | exact SubS_nil | refine SubS_cons rfl (by first | rfl | (simp; done) | assumption | (refine congrArg (SV.own 70 (rInt .i64).n 0) ?_; first | rfl | (rw [hs]; simp [Nat.add_assoc]; done) | (rw [hs]; done))) ?_)), (by repeat (first | exact SubH_nil | refine SubH_cons rfl (by first | rfl | (simp; done) | assumption | (refine congrArg (HB.mk (rInt .i64)) ?_; first | rfl | (rw [hs]; (try simp only [List.drop_zero, List.take_length]); first | done | rfl | (simp; done); done) | (rw [hs]; done) | (simp [hs]; done))) ?_))⟩ hi⟩)
    · have hke : k = (uniqS (refs pDef (rlV r))).length := by simp at h11; omega
      subst hke
      rw [List.take_length]
      refine j_exit (je_seq (je_loop (je_blk (jn_seq (j_seq ?_)))))
      refine j_region ?_
      refine jg_adr _ rfl _ rfl rfl (op_move (.base rfl)) ?_
      refine jg_adr _ rfl _ rfl rfl (op_assign (.base rfl)) ?_
      refine jg_nil ?_
      refine jn_keep [4] [70] (.cons rfl .nil) (.cons rfl .nil) ?_
      refine jn_seq (j_ret ?_)
      refine jr_seal (rt := rInt .i64) 70 4 (dropH 70 _) rfl rfl (by simp) (dropH_sub 70 _) (dropH_no 70 _) ?_
      exact jr_fin1 Try.results33 (res_tmp rfl) rfl (congrArg (SV.tv (rSlice (rInt .i64))) (by rw [List.drop_zero, List.take_length]; rfl))

end Go.Proofs.Ytemcooggkcneiaa
namespace Go.Proofs.Ytemcooggkcneiaa
open Go.Eng
set_option maxRecDepth 100000
set_option maxHeartbeats 4000000
set_option linter.unusedVariables false
set_option linter.unusedSimpArgs false


theorem dirs_no {s : TScope} {d : Int} (h : inN (scN s) d = false) : dirs s d = [] := by unfold dirs; rw [if_neg (by rw [h]; simp)]
theorem dirs_in {s : TScope} {d : Int} (h : inN (scN s) d = true) : dirs s d = uniqS (accD (scN s) (scR s) d) := by unfold dirs; rw [if_pos h]
theorem dst_len16 (zs : List Int) : (dstZ zs).length = zs.length := turn_sortedSet.len zs
theorem lim_rule {s : TScope} (h : Lim s) {k : Nat} (hk : k < (scR s).length) : RLim (scR s)[k] := h.2.2 _ (List.getElem_mem hk)

theorem direct_ok (s : TScope) (d : Int) (hL : Lim s) : Ct Try.prog 16 [.tv rScope s, .raw (.int .i64 d)] (.tv (rSlice (rInt .i64)) (dirs s d)) := by
  refine ct_intro Try.func16 rfl rfl Try.ntmps16 rfl rfl ?_
  intro w0 ok0
  have hN : scN s = s.2.2.2.1.length := rfl
  refine j_seq ?_
  refine j_region ?_
  refine jg_os _ rfl (op_box (.tv (.base rfl)) rfl rfl rfl) ?_
  refine jg_adr _ rfl _ rfl rfl (op_assign (.base rfl)) ?_
  refine jg_nil ?_
  refine jn_keep [1, 2] [2] (.cons rfl (.cons rfl .nil)) (.cons rfl .nil) ?_
  refine jn_seq (j_seq (j_seq ?_))
  refine j_region ?_
  refine jg_adr _ rfl _ rfl rfl (op_move (.base rfl)) ?_
  refine jg_adr _ rfl _ rfl rfl (op_lss (.base rfl) (.base rfl)) ?_
  refine jg_adr _ rfl _ rfl rfl (op_move (.base rfl)) ?_
  refine jg_gd _ _ _ _ _ _ rfl rfl rfl rfl rfl (fun hg => op_move (.base rfl)) ?_
  refine jg_gd _ _ _ _ _ _ rfl rfl rfl rfl rfl (fun hg => op_ofield fld25_3 (.base rfl)) ?_
  refine jg_gd _ _ _ _ _ _ rfl rfl rfl rfl rfl (fun hg => op_oload ty22 (.gd rfl hg) rfl rfl ln25_3) ?_
  refine jg_gd _ _ _ _ _ _ rfl rfl rfl rfl rfl (fun hg => op_len Try.underlying22 (.gd rfl hg)) ?_
  refine jg_gd _ _ _ _ _ _ rfl rfl rfl rfl rfl (fun hg => op_geq (.gd rfl hg) (.gd rfl hg)) ?_
  refine jg_adr _ rfl _ rfl rfl (op_pick_or (.base rfl) (.base rfl) rfl (by intro h; first | (rw [h]; rfl) | (rw [hg, h]; rfl) | (rw [h, hg]; rfl) | simp_all)) ?_
  refine jg_nil ?_
  refine jn_keep [1, 2, 16] [2] (.cons rfl (.cons rfl (.cons rfl .nil))) (.cons rfl .nil) ?_
  refine jn_seq ?_
  refine j_cond rfl (fun h1 => ?_) (fun h1 => ?_)
  · have h1 : inN (scN s) d = false := by
      by_cases e1 : d < 0
      · simp [inN]; omega
      · simp [e1] at h1; simp [inN]; omega
    refine j_seq ?_
    refine j_region ?_
    refine jg_adr _ rfl _ rfl rfl (op_assign (.base rfl)) ?_
    refine jg_nil ?_
    refine jn_keep [4] [] (.cons rfl .nil) .nil ?_
    refine jn_seq (j_ret (jr_seq ?_))
    exact jr_fin1 Try.results16 (res_nil rfl) rfl (congrArg (SV.tv (rSlice (rInt .i64))) (dirs_no h1).symm)
  · have h1 : inN (scN s) d = true := by
      by_cases e1 : d < 0
      · simp [e1] at h1
      · simp [e1] at h1; simp [inN]; omega
    refine j_skip (jn_seq (j_seq ?_))
    refine j_region ?_
    refine jg_adr _ rfl _ rfl rfl (op_assign (.base rfl)) ?_
    refine jg_nil ?_
    refine jn_keep [1, 2, 5] [2] (.cons rfl (.cons rfl (.cons rfl .nil))) (.cons rfl .nil) ?_
    refine jn_seq (j_seq (j_seq ?_))
    refine j_region ?_
    refine jg_adr _ rfl _ rfl rfl (op_ofield fld25_4 (.base rfl)) ?_
    refine jg_adr _ rfl _ rfl rfl (op_oload ty23 (.base rfl) rfl rfl ln25_4) ?_
    refine jg_adr _ rfl _ rfl rfl (op_len Try.underlying23 (.base rfl)) ?_
    refine jg_adr _ rfl _ rfl rfl (op_move (.base rfl)) ?_
    refine jg_nil ?_
    refine jn_keep [1, 2, 5, 18, 19, 20] [2] (.cons rfl (.cons rfl (.cons rfl (.cons rfl (.cons rfl (.cons rfl .nil)))))) (.cons rfl .nil) ?_
    refine jn_seq (j_block ?_)
    refine j_vac 70 5 (rInt .i64) rfl rfl rfl ?_
    refine j_loopp (ι := Nat) (fun k => ⟨[(1, .raw (.int .i64 (d))), (2, .optr 2 rScope.n 0 0), (5, .own 70 (rInt .i64).n 0 (accD (scN s) ((scR s).take k) d).length), (18, .tv (rSlice rRule) (scR s)), (19, .raw (.int .i64 ((scR s).length))), (20, .raw (.int .i64 ((k : Nat))))], [(2, ⟨rScope, [s]⟩), (70, ⟨rInt .i64, (accD (scN s) ((scR s).take k) d)⟩)]⟩) (fun k => k ≤ (scR s).length) (fun k => (scR s).length - k) 0 (Nat.zero_le _) (fun a w hi => (Sub.inv ⟨(by repeat (first | exact SubS_nil | refine SubS_cons rfl (by first | rfl | (simp; done) | assumption) ?_)), (by repeat (first | exact SubH_nil | refine SubH_cons rfl (by first | rfl | (simp; done) | assumption) ?_))⟩ hi)) ?_
    rintro k hk
    have hal := accD_len (n := scN s) (d := d) hL.2.2 k hk
    have hL1 := hL.1
    have hL2 := hL.2.1
    refine j_seq ?_
    refine j_region ?_
    refine jg_adr _ rfl _ rfl rfl (op_lss (.base rfl) (.base rfl)) ?_
    refine jg_nil ?_
    refine jn_keep [1, 2, 5, 18, 19, 20, 21] [2, 70] (.cons rfl (.cons rfl (.cons rfl (.cons rfl (.cons rfl (.cons rfl (.cons rfl .nil))))))) (.cons rfl (.cons rfl .nil)) ?_
    refine jn_seq (j_seq ?_)
    refine j_cond rfl (fun h5 => ?_) (fun h5 => ?_)
    · have h5 : k < (scR s).length := by simp at h5; omega
      have hrl := lim_rule hL h5
      have hrl2 := rdf_len (n := scN s) hrl
      refine j_skip (jn_seq (j_seq (j_block (j_seq ?_))))
      refine j_region ?_
      refine jg_adr _ rfl _ rfl rfl (op_index Try.underlying23 ty41 (.base rfl) (.base rfl) rfl (List.getElem?_eq_getElem (by first | omega | (simp; done) | (simp; omega) | (simp at hg; omega)))) ?_
      refine jg_adr _ rfl _ rfl rfl (op_load ty41 (.base rfl)) ?_
      refine jg_os _ rfl (op_alloc _ z41 rfl rfl rfl) ?_
      refine jg_os _ rfl (op_ostore ty41 (.base rfl) rfl rfl (Lens.id _) (.tv (.base rfl))) ?_
      refine jg_nil ?_
      refine jn_keep [1, 2, 5, 7, 18, 19, 20] [2, 7, 70] (.cons rfl (.cons rfl (.cons rfl (.cons rfl (.cons rfl (.cons rfl (.cons rfl .nil))))))) (.cons rfl (.cons rfl (.cons rfl .nil))) ?_
      refine jn_seq (j_seq ?_)
      refine j_region ?_
      refine jg_adr _ rfl _ rfl rfl (op_ofield fld41_1 (.base rfl)) ?_
      refine jg_adr _ rfl _ rfl rfl (op_oload ty3 (.base rfl) rfl rfl ln41_1) ?_
      refine jg_adr _ rfl _ rfl rfl (op_move (.base rfl)) ?_
      refine jg_adr _ rfl _ rfl rfl (op_eql (.base rfl) (.base rfl)) ?_
      refine jg_nil ?_
      refine jn_keep [1, 2, 5, 7, 18, 19, 20, 27] [2, 7, 70] (.cons rfl (.cons rfl (.cons rfl (.cons rfl (.cons rfl (.cons rfl (.cons rfl (.cons rfl .nil)))))))) (.cons rfl (.cons rfl (.cons rfl .nil))) ?_
      refine jn_seq ?_
      refine j_cond rfl (fun h7 => ?_) (fun h7 => ?_)
      · have hs := accD_t (n := scN s) h5 (d := d) (by simpa using h7)
        refine j_region ?_
        refine jg_adr _ rfl _ rfl rfl (op_move (.base rfl)) ?_
        refine jg_adr _ rfl _ rfl rfl (op_oload ty41 (.base rfl) rfl rfl (Lens.id _)) ?_
        refine jg_adr _ rfl _ rfl rfl (op_ofield fld25_3 (.base rfl)) ?_
        refine jg_adr _ rfl _ rfl rfl (op_oload ty22 (.base rfl) rfl rfl ln25_3) ?_
        refine jg_adr _ rfl _ rfl rfl (op_len Try.underlying22 (.base rfl)) ?_
        refine jg_adr _ rfl _ rfl rfl (op_call (defsOf_ok (scR s)[k] (scN s) hrl (by omega)) (.cons (.base rfl) (.cons (.base rfl) .nil)) rfl rfl) ?_
        refine jg_os _ rfl (op_append [1, 2, 18, 19, 20] Try.underlying28 ty3 z3 rfl by3 (.base rfl) rfl (by (try simp); try omega) (.tv (.base rfl)) (by unfold maxLen; (try simp); try omega) (by (try simp); try omega) rfl (.cons rfl (.cons rfl (.cons rfl (.cons rfl (.cons rfl .nil))))) rfl) ?_
        refine jg_adr _ rfl _ rfl rfl (op_assign (.base rfl)) ?_
        refine jg_nil ?_
        refine jn_keep [1, 2, 5, 18, 19, 20] [2, 70] (.cons rfl (.cons rfl (.cons rfl (.cons rfl (.cons rfl (.cons rfl .nil)))))) (.cons rfl (.cons rfl .nil)) ?_
        refine jn_blk (jn_seq ?_)
        refine j_region ?_
        refine jg_adr _ rfl _ rfl rfl (op_add (.base rfl) (.base rfl) (w64 (by omega))) ?_
        refine jg_adr _ rfl _ rfl rfl (op_move (.base rfl)) ?_
        refine jg_nil ?_
        refine jn_keep [1, 2, 5, 18, 19, 20] [2, 70] (.cons rfl (.cons rfl (.cons rfl (.cons rfl (.cons rfl (.cons rfl .nil)))))) (.cons rfl (.cons rfl .nil)) ?_
        exact jn_loop (fun a w hi => ⟨k + 1, (by first | omega | (simp; omega)), (by omega), Sub.inv ⟨(by repeat (first | exact SubS_nil | refine SubS_cons rfl (by first | rfl | (simp; done) | assumption | (refine congrArg (SV.own 70 (rInt .i64).n 0) ?_; first | rfl | (rw [hs]; simp; done) | (rw [hs]; done))) ?_)), (by repeat (first | exact SubH_nil | refine SubH_cons rfl (by first | rfl | (simp; done) | assumption | (refine congrArg (HB.mk (rInt .i64)) ?_; first | rfl | (rw [hs]; (try simp only [List.drop_zero, List.take_length]); first | done | rfl | (simp; done); done) | (rw [hs]; done))) ?_))⟩ hi⟩)
      · have hs := accD_f (n := scN s) h5 (d := d) (by simpa using h7)
        refine j_skip (jn_blk (jn_seq ?_))
        refine j_region ?_
        refine jg_adr _ rfl _ rfl rfl (op_add (.base rfl) (.base rfl) (w64 (by omega))) ?_
        refine jg_adr _ rfl _ rfl rfl (op_move (.base rfl)) ?_
        refine jg_nil ?_
        refine jn_keep [1, 2, 5, 18, 19, 20] [2, 70] (.cons rfl (.cons rfl (.cons rfl (.cons rfl (.cons rfl (.cons rfl .nil)))))) (.cons rfl (.cons rfl .nil)) ?_
        exact jn_loop (fun a w hi => ⟨k + 1, (by first | omega | (simp; omega)), (by omega), Sub.inv ⟨(by repeat (first | exact SubS_nil | refine SubS_cons rfl (by first | rfl | (simp; done) | assumption | (refine congrArg (SV.own 70 (rInt .i64).n 0) ?_; first | rfl | (rw [hs]; simp; done) | (rw [hs]; done))) ?_)), (by repeat (first | exact SubH_nil | refine SubH_cons rfl (by first | rfl | (simp; done) | assumption | (refine congrArg (HB.mk (rInt .i64)) ?_; first | rfl | (rw [hs]; (try simp only [List.drop_zero, List.take_length]); first | done | rfl | (simp; done); done) | (rw [hs]; done))) ?_))⟩ hi⟩)
    · have hke : k = (scR s).length := by simp at h5; omega
      subst hke
      rw [List.take_length]
      refine j_exit (je_seq (je_loop (je_blk (jn_seq (j_seq ?_)))))
      refine j_region ?_
      refine jg_adr _ rfl _ rfl rfl (op_move (.base rfl)) ?_
      refine jg_os _ rfl (op_turn1 turn_sortedSet (.base rfl) rfl (by rfl) (by rw [List.take_length] at hal; omega) rfl) ?_
      refine jg_adr _ rfl _ rfl rfl (op_assign (.base rfl)) ?_
      refine jg_nil ?_
      refine jn_keep [4] [70] (.cons rfl .nil) (.cons rfl .nil) ?_
      refine jn_seq (j_ret ?_)
      refine jr_seal (rt := rInt .i64) 70 4 (dropH 70 _) rfl rfl (by rw [dst_len16, Nat.zero_add]; exact uniqS_len _) (dropH_sub 70 _) (dropH_no 70 _) ?_
      exact jr_fin1 Try.results16 (res_tmp rfl) rfl (congrArg (SV.tv (rSlice (rInt .i64))) (by rw [List.drop_zero, dst_take, dirs_in h1]))

end Go.Proofs.Ytemcooggkcneiaa
