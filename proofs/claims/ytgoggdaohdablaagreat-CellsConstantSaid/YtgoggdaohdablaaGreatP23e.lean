import Derived.Test.YtgoggdaohdablaaGreatP23d
namespace Go.Proofs.YtgoggdaohdablaaGreat
open Go.Eng
set_option maxRecDepth 100000
set_option maxHeartbeats 4000000
set_option linter.unusedVariables false
set_option linter.unusedSimpArgs false


def rng (lo : Int) (k : Nat) : List Int := (List.range k).map (fun (i : Nat) => lo + (i : Int))
theorem rng_succ (lo : Int) (k : Nat) : rng lo (k + 1) = rng lo k ++ [lo + (k : Int)] := by simp [rng, List.range_succ]
theorem rng_len (lo : Int) (k : Nat) : (rng lo k).length = k := by simp [rng]
def inR (lo hi : Int) (c : Int) : Bool := decide (lo ≤ c) && decide (c ≤ hi)
def repsF (t : TType) (en : List TEnum) (cuts : List Int) : List Int :=
  if validType t en = false then [] else if t.1 = 1 ∨ t.1 = 6 then rng (bounds t en).1 ((bounds t en).2 - (bounds t en).1 + 1).toNat
  else uniqS ([(bounds t en).1] ++ cuts.filter (inR (bounds t en).1 (bounds t en).2))
theorem bounds_bad {t : TType} {en : List TEnum} (h : validType t en = false) : bounds t en = (0, -1) := by unfold bounds; rw [if_pos h]
theorem bounds_le {t : TType} {en : List TEnum} (h : validType t en = true) : (bounds t en).1 ≤ (bounds t en).2 + 1 ∧ (¬ (t.1 = 1 ∨ t.1 = 6) → (bounds t en).1 ≤ (bounds t en).2) := by
  unfold bounds
  rw [if_neg (by simp [h])]
  (repeat' split) <;> first | (simp; done) | skip
  have : 0 ≤ memb en t.2 := by unfold memb; omega
  refine ⟨by simp; omega, fun q => ?_⟩
  unfold validType at h
  (repeat' split at h) <;> first | omega | (exfalso; omega) | simp at h
theorem bounds_abs {t : TType} {en : List TEnum} (hen : ∀ x ∈ en, x.2.length ≤ 100000) : -1000000000000000 ≤ (bounds t en).1 ∧ (bounds t en).1 ≤ 0 ∧ (bounds t en).2 ≤ 1000000000000000 := by
  have hm : memb en t.2 ≤ 100000 := by
    unfold memb
    cases h : en[t.2.toNat]? with
    | none => simp
    | some x => have := hen x (List.mem_of_getElem? h); simp; omega
  unfold bounds; (repeat' split) <;> simp <;> omega
theorem bounds_small {t : TType} {en : List TEnum} (hen : ∀ x ∈ en, x.2.length ≤ 100000) (hk : t.1 = 1 ∨ t.1 = 6) : (bounds t en).2 ≤ 100000 ∧ (bounds t en).1 = 0 := by
  have hm : memb en t.2 ≤ 100000 := by
    unfold memb
    cases h : en[t.2.toNat]? with
    | none => simp
    | some x => have := hen x (List.mem_of_getElem? h); simp; omega
  unfold bounds; (repeat' split) <;> first | (simp; done) | (simp; omega) | (exfalso; omega)
theorem reps_bad {t : TType} {en : List TEnum} {cuts : List Int} (h : (bounds t en).2 < (bounds t en).1) : repsF t en cuts = [] := by
  unfold repsF
  by_cases hv : validType t en = false
  · rw [if_pos hv]
  · rw [if_neg hv]
    have hb := bounds_le (by simpa using hv : validType t en = true)
    by_cases hk : t.1 = 1 ∨ t.1 = 6
    · rw [if_pos hk, show ((bounds t en).2 - (bounds t en).1 + 1).toNat = 0 by omega]; rfl
    · have := hb.2 hk; omega
theorem bounds_valid {t : TType} {en : List TEnum} (h : ¬ (bounds t en).2 < (bounds t en).1) : validType t en = true := by
  cases hv : validType t en with
  | true => rfl
  | false => rw [bounds_bad hv] at h; simp at h

theorem reps_ok (t : TType) (en : List TEnum) (cuts : List Int) (hcl : cuts.length ≤ 10000) (hen : ∀ x ∈ en, x.2.length ≤ 100000) : Ct Tryz.prog 9 [.tv rType t, .tv (rSlice rEnum) en, .tv (rSlice (rInt .i64)) cuts] (.tv (rSlice (rInt .i64)) (repsF t en cuts)) := by
  refine ct_intro Tryz.func9 rfl rfl Tryz.ntmps9 rfl rfl ?_
  intro w0 ok0
  refine j_seq ?_
  refine j_region ?_
  refine jg_os _ rfl (op_box (.tv (.base rfl)) rfl rfl rfl) ?_
  refine jg_adr _ rfl _ rfl rfl (op_assign (.base rfl)) ?_
  refine jg_nil ?_
  refine jn_keep [1, 2, 3] [3] (.cons rfl (.cons rfl (.cons rfl .nil))) (.cons rfl .nil) ?_
  refine jn_seq (j_seq (j_seq ?_))
  refine j_region ?_
  refine jg_adr _ rfl _ rfl rfl (op_oload ty37 (.base rfl) rfl rfl (Lens.id _)) ?_
  refine jg_adr _ rfl _ rfl rfl (op_move (.base rfl)) ?_
  refine jg_adr _ rfl _ rfl rfl (op_call (validType_ok _ _) (.cons (.base rfl) (.cons (.base rfl) .nil)) rfl rfl) ?_
  refine jg_adr _ rfl _ rfl rfl (op_not (.base rfl)) ?_
  refine jg_nil ?_
  refine jn_keep [1, 2, 3, 16] [3] (.cons rfl (.cons rfl (.cons rfl (.cons rfl .nil)))) (.cons rfl .nil) ?_
  refine jn_seq ?_
  refine j_cond rfl (fun h1 => ?_) (fun h1 => ?_)
  · have hv : validType t en = false := by simpa using h1
    refine j_seq ?_
    refine j_region ?_
    refine jg_adr _ rfl _ rfl rfl (op_assign (.base rfl)) ?_
    refine jg_nil ?_
    refine jn_keep [6] [] (.cons rfl .nil) .nil ?_
    refine jn_seq (j_ret (jr_seq ?_))
    exact jr_fin1 Tryz.results9 (res_nil rfl) rfl (congrArg (SV.tv (rSlice (rInt .i64))) (by unfold repsF; rw [if_pos hv]))
  · have hv : validType t en = true := by simpa using h1
    refine j_skip (jn_seq (j_seq ?_))
    refine j_region ?_
    refine jg_adr _ rfl _ rfl rfl (op_oload ty37 (.base rfl) rfl rfl (Lens.id _)) ?_
    refine jg_adr _ rfl _ rfl rfl (op_move (.base rfl)) ?_
    refine jg_adr _ rfl _ rfl rfl (op_call (bounds_ok _ _) (.cons (.base rfl) (.cons (.base rfl) .nil)) rfl rfl) ?_
    refine jg_adr _ rfl _ rfl rfl (op_move (.base rfl)) ?_
    refine jg_adr _ rfl _ rfl rfl (op_ext20 (.base rfl)) ?_
    refine jg_adr _ rfl _ rfl rfl (op_ext21 (.base rfl)) ?_
    refine jg_adr _ rfl _ rfl rfl (op_assign (.base rfl)) ?_
    refine jg_adr _ rfl _ rfl rfl (op_assign (.base rfl)) ?_
    refine jg_nil ?_
    refine jn_keep [2, 3, 7, 8] [3] (.cons rfl (.cons rfl (.cons rfl (.cons rfl .nil)))) (.cons rfl .nil) ?_
    refine jn_seq (j_seq ?_)
    refine j_region ?_
    refine jg_adr _ rfl _ rfl rfl (op_assign (.base rfl)) ?_
    refine jg_nil ?_
    refine jn_keep [2, 3, 7, 8, 9] [3] (.cons rfl (.cons rfl (.cons rfl (.cons rfl (.cons rfl .nil))))) (.cons rfl .nil) ?_
    refine jn_seq (j_seq (j_seq ?_))
    have hba := bounds_abs (t := t) hen
    refine j_region ?_
    refine jg_adr _ rfl _ rfl rfl (op_ofield fld37_0 (.base rfl)) ?_
    refine jg_adr _ rfl _ rfl rfl (op_oload ty3 (.base rfl) rfl rfl ln37_0) ?_
    refine jg_adr _ rfl _ rfl rfl (op_eql (.base rfl) (.base rfl)) ?_
    refine jg_adr _ rfl _ rfl rfl (op_move (.base rfl)) ?_
    refine jg_gd _ _ _ _ _ _ rfl rfl rfl rfl rfl (fun hg => op_ofield fld37_0 (.base rfl)) ?_
    refine jg_gd _ _ _ _ _ _ rfl rfl rfl rfl rfl (fun hg => op_oload ty3 (.gd rfl hg) rfl rfl ln37_0) ?_
    refine jg_gd _ _ _ _ _ _ rfl rfl rfl rfl rfl (fun hg => op_eql (.gd rfl hg) (.base rfl)) ?_
    refine jg_adr _ rfl _ rfl rfl (op_pick_or (.base rfl) (.base rfl) rfl (by intro h; first | (rw [h]; rfl) | (rw [hg, h]; rfl) | (rw [h, hg]; rfl) | simp_all)) ?_
    refine jg_nil ?_
    refine jn_keep [2, 7, 8, 9, 30] [] (.cons rfl (.cons rfl (.cons rfl (.cons rfl (.cons rfl .nil))))) .nil ?_
    refine jn_seq ?_
    refine j_cond rfl (fun h5 => ?_) (fun h5 => ?_)
    · have hk5 : t.1 = 1 ∨ t.1 = 6 := by simp at h5; omega
      obtain ⟨hb1, hb2⟩ := bounds_small (en := en) hen hk5
      have hb3 := (bounds_le hv).1
      refine j_seq (j_seq ?_)
      refine j_region ?_
      refine jg_adr _ rfl _ rfl rfl (op_move (.base rfl)) ?_
      refine jg_adr _ rfl _ rfl rfl (op_assign (.base rfl)) ?_
      refine jg_nil ?_
      refine jn_keep [8, 9, 10] [] (.cons rfl (.cons rfl (.cons rfl .nil))) .nil ?_
      refine jn_seq (j_block ?_)
      refine j_vac 70 9 (rInt .i64) rfl rfl rfl ?_
      refine j_loopp (ι := Nat) (fun k => ⟨[(8, .raw (.int .i64 ((bounds t en).2))), (9, .own 70 (rInt .i64).n 0 (rng (bounds t en).1 k).length), (10, .raw (.int .i64 ((bounds t en).1 + (k : Nat))))], [(70, ⟨rInt .i64, (rng (bounds t en).1 k)⟩)]⟩) (fun k => (k : Int) ≤ (bounds t en).2 + 1 - (bounds t en).1) (fun k => ((bounds t en).2 + 1 - (bounds t en).1).toNat - k) 0 (by omega) (fun a w hi => (Sub.inv ⟨(by repeat (first | exact SubS_nil | refine SubS_cons rfl (by first | rfl | exact congrArg (fun z => SV.raw (.int .i64 z)) (by simp)) ?_)), (by repeat (first | exact SubH_nil | refine SubH_cons rfl (by first | rfl | (simp; done) | assumption) ?_))⟩ hi)) ?_
      rintro k hk
      have hrl := rng_len (bounds t en).1 k
      refine j_seq (j_seq ?_)
      refine j_region ?_
      refine jg_adr _ rfl _ rfl rfl (op_move (.base rfl)) ?_
      refine jg_adr _ rfl _ rfl rfl (op_move (.base rfl)) ?_
      refine jg_adr _ rfl _ rfl rfl (op_leq (.base rfl) (.base rfl)) ?_
      refine jg_nil ?_
      refine jn_keep [8, 9, 10, 34] [70] (.cons rfl (.cons rfl (.cons rfl (.cons rfl .nil)))) (.cons rfl .nil) ?_
      refine jn_seq ?_
      refine j_cond rfl (fun h7 => ?_) (fun h7 => ?_)
      · try simp at h7
        refine j_skip (jn_seq (j_seq (j_block ?_)))
        refine j_region ?_
        refine jg_adr _ rfl _ rfl rfl (op_move (.base rfl)) ?_
        refine jg_adr _ rfl _ rfl rfl (op_move (.base rfl)) ?_
        refine jg_adr _ rfl _ rfl rfl (op_bslice (rt := (rInt .i64)) Tryz.underlying28 ty3 z3 rfl (.cons (.raw (.base rfl) rfl) .nil) rfl rfl) ?_
        refine jg_os _ rfl (op_append [8, 10] Tryz.underlying28 ty3 z3 rfl by3 (.base rfl) rfl (by (try simp); try omega) (.tv (.base rfl)) (by unfold maxLen; (try simp); try omega) (by (try simp); try omega) rfl (.cons rfl (.cons rfl .nil)) rfl) ?_
        refine jg_adr _ rfl _ rfl rfl (op_assign (.base rfl)) ?_
        refine jg_nil ?_
        refine jn_keep [8, 9, 10] [70] (.cons rfl (.cons rfl (.cons rfl .nil))) (.cons rfl .nil) ?_
        refine jn_blk (jn_seq ?_)
        refine j_region ?_
        refine jg_adr _ rfl _ rfl rfl (op_move (.base rfl)) ?_
        refine jg_adr _ rfl _ rfl rfl (op_add (.base rfl) (.base rfl) (w64 (by omega))) ?_
        refine jg_adr _ rfl _ rfl rfl (op_assign (.base rfl)) ?_
        refine jg_nil ?_
        refine jn_keep [8, 9, 10] [70] (.cons rfl (.cons rfl (.cons rfl .nil))) (.cons rfl .nil) ?_
        exact jn_loop (fun a w hi => ⟨k + 1, (by omega), (by omega), Sub.inv ⟨(by repeat (first | exact SubS_nil | refine SubS_cons rfl (by first | rfl | exact congrArg (SV.own 70 (rInt .i64).n 0) (by rw [rng_succ (bounds t en).1 k]; try simp; try omega) | exact congrArg (fun z => SV.raw (.int .i64 z)) (by omega)) ?_)), (by repeat (first | exact SubH_nil | refine SubH_cons rfl (by first | rfl | (refine congrArg (HB.mk (rInt .i64)) ?_; rw [rng_succ (bounds t en).1 k]; try (simp only [List.drop_zero, List.take_of_length_le (Nat.le_refl _)]); first | done | rfl | (simp; done))) ?_))⟩ hi⟩)
      · try simp at h7
        refine j_exit (je_seq (je_loop (je_blk (jn_seq (j_seq ?_)))))
        refine j_region ?_
        refine jg_adr _ rfl _ rfl rfl (op_move (.base rfl)) ?_
        refine jg_adr _ rfl _ rfl rfl (op_assign (.base rfl)) ?_
        refine jg_nil ?_
        refine jn_keep [6] [70] (.cons rfl .nil) (.cons rfl .nil) ?_
        refine jn_seq (j_ret (jr_seq ?_))
        refine jr_seal (rt := rInt .i64) 70 6 (dropH 70 _) rfl rfl (by simp) (dropH_sub 70 _) (dropH_no 70 _) ?_
        exact jr_fin1 Tryz.results9 (res_tmp rfl) rfl (congrArg (SV.tv (rSlice (rInt .i64))) (by rw [List.drop_zero, List.take_of_length_le (Nat.le_refl _)]; unfold repsF; rw [if_neg (by simp [hv]), if_pos hk5]; congr 1; omega))
    · have hk5 : ¬ (t.1 = 1 ∨ t.1 = 6) := by simp at h5; omega
      have hb3 := (bounds_le hv).2 hk5
      refine j_skip (jn_seq (j_seq ?_))
      refine j_vac 70 9 (rInt .i64) rfl rfl rfl ?_
      refine j_region ?_
      refine jg_adr _ rfl _ rfl rfl (op_move (.base rfl)) ?_
      refine jg_adr _ rfl _ rfl rfl (op_move (.base rfl)) ?_
      refine jg_adr _ rfl _ rfl rfl (op_bslice (rt := (rInt .i64)) Tryz.underlying28 ty3 z3 rfl (.cons (.raw (.base rfl) rfl) .nil) rfl rfl) ?_
      refine jg_os _ rfl (op_append [2, 7, 8] Tryz.underlying28 ty3 z3 rfl by3 (.base rfl) rfl (by (try simp); try omega) (.tv (.base rfl)) (by unfold maxLen; (try simp); try omega) (by (try simp); try omega) rfl (.cons rfl (.cons rfl (.cons rfl .nil))) rfl) ?_
      refine jg_adr _ rfl _ rfl rfl (op_assign (.base rfl)) ?_
      refine jg_nil ?_
      refine jn_keep [2, 7, 8, 9] [70] (.cons rfl (.cons rfl (.cons rfl (.cons rfl .nil)))) (.cons rfl .nil) ?_
      refine jn_seq (j_seq (j_seq ?_))
      refine j_region ?_
      refine jg_adr _ rfl _ rfl rfl (op_move (.base rfl)) ?_
      refine jg_adr _ rfl _ rfl rfl (op_len Tryz.underlying28 (.base rfl)) ?_
      refine jg_adr _ rfl _ rfl rfl (op_move (.base rfl)) ?_
      refine jg_nil ?_
      refine jn_keep [7, 8, 9, 46, 47, 48] [70] (.cons rfl (.cons rfl (.cons rfl (.cons rfl (.cons rfl (.cons rfl .nil)))))) (.cons rfl .nil) ?_
      refine jn_seq (j_block ?_)
      refine j_loopp (ι := Nat) (fun j => ⟨[(7, .raw (.int .i64 ((bounds t en).1))), (8, .raw (.int .i64 ((bounds t en).2))), (9, .own 70 (rInt .i64).n 0 ([(bounds t en).1] ++ (cuts.take j).filter (inR (bounds t en).1 (bounds t en).2)).length), (46, .tv (rSlice (rInt .i64)) cuts), (47, .raw (.int .i64 (cuts.length))), (48, .raw (.int .i64 ((j : Nat))))], [(70, ⟨rInt .i64, ([(bounds t en).1] ++ (cuts.take j).filter (inR (bounds t en).1 (bounds t en).2))⟩)]⟩) (fun j => j ≤ cuts.length) (fun j => cuts.length - j) 0 (Nat.zero_le _) (fun a w hi => (Sub.inv ⟨(by repeat (first | exact SubS_nil | refine SubS_cons rfl (by first | rfl | (simp; done) | assumption) ?_)), (by repeat (first | exact SubH_nil | refine SubH_cons rfl (by first | rfl | (simp; done) | assumption) ?_))⟩ hi)) ?_
      rintro j hj
      have hfl := filt_len (p := inR (bounds t en).1 (bounds t en).2) (l := cuts) (k := j)
      have hrl : ([(bounds t en).1] ++ (cuts.take j).filter (inR (bounds t en).1 (bounds t en).2)).length ≤ cuts.length + 1 := by simp only [List.length_append, List.length_cons, List.length_nil]; omega
      refine j_seq ?_
      refine j_region ?_
      refine jg_adr _ rfl _ rfl rfl (op_lss (.base rfl) (.base rfl)) ?_
      refine jg_nil ?_
      refine jn_keep [7, 8, 9, 46, 47, 48, 49] [70] (.cons rfl (.cons rfl (.cons rfl (.cons rfl (.cons rfl (.cons rfl (.cons rfl .nil))))))) (.cons rfl .nil) ?_
      refine jn_seq (j_seq ?_)
      refine j_cond rfl (fun h13 => ?_) (fun h13 => ?_)
      · try simp at h13
        refine j_skip (jn_seq (j_seq (j_block (j_seq ?_))))
        refine j_region ?_
        refine jg_adr _ rfl _ rfl rfl (op_index Tryz.underlying28 ty3 (.base rfl) (.base rfl) rfl (List.getElem?_eq_getElem (by first | omega | (simp; done) | (simp; omega) | (simp at hg; omega)))) ?_
        refine jg_adr _ rfl _ rfl rfl (op_load ty3 (.base rfl)) ?_
        refine jg_adr _ rfl _ rfl rfl (op_assign (.base rfl)) ?_
        refine jg_nil ?_
        refine jn_keep [7, 8, 9, 12, 46, 47, 48] [70] (.cons rfl (.cons rfl (.cons rfl (.cons rfl (.cons rfl (.cons rfl (.cons rfl .nil))))))) (.cons rfl .nil) ?_
        refine jn_seq (j_seq ?_)
        refine j_region ?_
        refine jg_adr _ rfl _ rfl rfl (op_move (.base rfl)) ?_
        refine jg_adr _ rfl _ rfl rfl (op_move (.base rfl)) ?_
        refine jg_adr _ rfl _ rfl rfl (op_geq (.base rfl) (.base rfl)) ?_
        refine jg_adr _ rfl _ rfl rfl (op_move (.base rfl)) ?_
        refine jg_gd _ _ _ _ _ _ rfl rfl rfl rfl rfl (fun hg => op_move (.base rfl)) ?_
        refine jg_gd _ _ _ _ _ _ rfl rfl rfl rfl rfl (fun hg => op_move (.base rfl)) ?_
        refine jg_gd _ _ _ _ _ _ rfl rfl rfl rfl rfl (fun hg => op_leq (.gd rfl hg) (.gd rfl hg)) ?_
        refine jg_adr _ rfl _ rfl rfl (op_pick_and (.base rfl) (.base rfl) rfl (by intro h; first | (rw [h]; rfl) | (rw [hg, h]; rfl) | (rw [h, hg]; rfl) | simp_all)) ?_
        refine jg_nil ?_
        refine jn_keep [7, 8, 9, 12, 46, 47, 48, 59] [70] (.cons rfl (.cons rfl (.cons rfl (.cons rfl (.cons rfl (.cons rfl (.cons rfl (.cons rfl .nil)))))))) (.cons rfl .nil) ?_
        refine jn_seq ?_
        refine j_cond rfl (fun h15 => ?_) (fun h15 => ?_)
        · have hc := filt_t (p := inR (bounds t en).1 (bounds t en).2) (l := cuts) (k := j) (by omega) (by simpa [inR] using h15)
          refine j_region ?_
          refine jg_adr _ rfl _ rfl rfl (op_move (.base rfl)) ?_
          refine jg_adr _ rfl _ rfl rfl (op_move (.base rfl)) ?_
          refine jg_adr _ rfl _ rfl rfl (op_bslice (rt := (rInt .i64)) Tryz.underlying28 ty3 z3 rfl (.cons (.raw (.base rfl) rfl) .nil) rfl rfl) ?_
          refine jg_os _ rfl (op_append [7, 8, 46, 47, 48] Tryz.underlying28 ty3 z3 rfl by3 (.base rfl) rfl (by (try simp); try omega) (.tv (.base rfl)) (by unfold maxLen; (try simp); try omega) (by (try simp); try omega) rfl (.cons rfl (.cons rfl (.cons rfl (.cons rfl (.cons rfl .nil))))) rfl) ?_
          refine jg_adr _ rfl _ rfl rfl (op_assign (.base rfl)) ?_
          refine jg_nil ?_
          refine jn_keep [7, 8, 9, 46, 47, 48] [70] (.cons rfl (.cons rfl (.cons rfl (.cons rfl (.cons rfl (.cons rfl .nil)))))) (.cons rfl .nil) ?_
          refine jn_blk (jn_seq ?_)
          refine j_region ?_
          refine jg_adr _ rfl _ rfl rfl (op_add (.base rfl) (.base rfl) (w64 (by omega))) ?_
          refine jg_adr _ rfl _ rfl rfl (op_move (.base rfl)) ?_
          refine jg_nil ?_
          refine jn_keep [7, 8, 9, 46, 47, 48] [70] (.cons rfl (.cons rfl (.cons rfl (.cons rfl (.cons rfl (.cons rfl .nil)))))) (.cons rfl .nil) ?_
          exact jn_loop (fun a w hi => ⟨j + 1, (by omega), (by omega), Sub.inv ⟨(by repeat (first | exact SubS_nil | refine SubS_cons rfl (by first | rfl | exact congrArg (SV.own 70 (rInt .i64).n 0) (by rw [hc]; try simp; try omega) | exact congrArg (fun z => SV.raw (.int .i64 z)) (by omega)) ?_)), (by repeat (first | exact SubH_nil | refine SubH_cons rfl (by first | rfl | (refine congrArg (HB.mk (rInt .i64)) ?_; rw [hc]; try (simp only [List.drop_zero, List.take_of_length_le (Nat.le_refl _)]); first | done | rfl | (simp; done))) ?_))⟩ hi⟩)
        · have hc := filt_f (p := inR (bounds t en).1 (bounds t en).2) (l := cuts) (k := j) (by omega) (by simpa [inR] using h15)
          refine j_skip (jn_blk (jn_seq ?_))
          refine j_region ?_
          refine jg_adr _ rfl _ rfl rfl (op_add (.base rfl) (.base rfl) (w64 (by omega))) ?_
          refine jg_adr _ rfl _ rfl rfl (op_move (.base rfl)) ?_
          refine jg_nil ?_
          refine jn_keep [7, 8, 9, 46, 47, 48] [70] (.cons rfl (.cons rfl (.cons rfl (.cons rfl (.cons rfl (.cons rfl .nil)))))) (.cons rfl .nil) ?_
          exact jn_loop (fun a w hi => ⟨j + 1, (by omega), (by omega), Sub.inv ⟨(by repeat (first | exact SubS_nil | refine SubS_cons rfl (by first | rfl | exact congrArg (SV.own 70 (rInt .i64).n 0) (by rw [hc]; try simp; try omega) | exact congrArg (fun z => SV.raw (.int .i64 z)) (by omega)) ?_)), (by repeat (first | exact SubH_nil | refine SubH_cons rfl (by first | rfl | (refine congrArg (HB.mk (rInt .i64)) ?_; rw [hc]; try (simp only [List.drop_zero, List.take_of_length_le (Nat.le_refl _)]); first | done | rfl | (simp; done))) ?_))⟩ hi⟩)
      · try simp at h13
        refine j_exit (je_seq (je_loop (je_blk (jn_seq (j_seq ?_)))))
        have hjj : j = cuts.length := by omega
        subst hjj
        refine j_region ?_
        refine jg_adr _ rfl _ rfl rfl (op_move (.base rfl)) ?_
        refine jg_os _ rfl (op_turn0d turn_sort (.base rfl) rfl (by rfl) (by omega) (fun _ => rfl) rfl) ?_
        refine jg_nil ?_
        refine jn_keep [9] [70] (.cons rfl .nil) (.cons rfl .nil) ?_
        refine jn_seq (j_seq ?_)
        refine j_region ?_
        refine jg_adr _ rfl _ rfl rfl (op_move (.base rfl)) ?_
        refine jg_os _ rfl (op_turn1 turn_compact (.base rfl) rfl (by rw [List.length_mergeSort]) (by rw [List.length_mergeSort]; omega) rfl) ?_
        refine jg_adr _ rfl _ rfl rfl (op_assign (.base rfl)) ?_
        refine jg_nil ?_
        refine jn_keep [6] [70] (.cons rfl .nil) (.cons rfl .nil) ?_
        refine jn_seq (j_ret ?_)
        refine jr_seal (rt := rInt .i64) 70 6 (dropH 70 _) rfl rfl (by rw [cptZ_len, Nat.zero_add]; exact Lib.compact_length_le _) (dropH_sub 70 _) (dropH_no 70 _) ?_
        exact jr_fin1 Tryz.results9 (res_tmp rfl) rfl (congrArg (SV.tv (rSlice (rInt .i64))) (by simp only [List.drop_zero, List.take_of_length_le (Nat.le_refl _), cpt_take]; unfold repsF; rw [if_neg (by simp [hv]), if_neg hk5]; rfl))


end Go.Proofs.YtgoggdaohdablaaGreat
