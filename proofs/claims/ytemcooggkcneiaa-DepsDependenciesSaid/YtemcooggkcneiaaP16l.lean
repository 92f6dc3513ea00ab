import Derived.Test.YtemcooggkcneiaaP16k
namespace Go.Proofs.Ytemcooggkcneiaa
open Go.Eng
set_option maxRecDepth 100000
set_option maxHeartbeats 4000000
set_option linter.unusedVariables false
set_option linter.unusedSimpArgs false


noncomputable def trns (s : TScope) (d : Int) : List Int := if inN (scN s) d = true then reachL (scN s) (allD s) d else []
def rms (r : TRule) : List Int := uniqS (refs pMem (rlG r)) ++ uniqS (refs pMem (rlV r))
def accM (p : Int → Bool) (l : List TRule) : List Int := (l.filter (fun r => p (rlD r))).flatMap rms
open Classical in
noncomputable def wnt (s : TScope) (d : Int) (x : Int) : Bool := decide (x = d ∨ x ∈ reachL (scN s) (allD s) d)
noncomputable def mems (s : TScope) (d : Int) : List Int := if inN (scN s) d = true then uniqS (accM (wnt s d) (scR s)) else []
theorem rms_len {r : TRule} (h : RLim r) : (rms r).length ≤ 120 := by
  have h1 := ur_len pMem (rlG r); have h2 := ur_len pMem (rlV r)
  unfold rms; rw [List.length_append]; have := h.1; have := h.2; omega
theorem accM_t {p : Int → Bool} {l : List TRule} {k : Nat} (h : k < l.length) (hd : p (rlD l[k]) = true) : accM p (l.take (k + 1)) = accM p (l.take k) ++ uniqS (refs pMem (rlG l[k])) ++ uniqS (refs pMem (rlV l[k])) := by
  unfold accM; rw [List.take_succ_eq_append_getElem h, List.filter_append, List.flatMap_append]; simp [hd, rms]
theorem accM_f {p : Int → Bool} {l : List TRule} {k : Nat} (h : k < l.length) (hd : p (rlD l[k]) = false) : accM p (l.take (k + 1)) = accM p (l.take k) := by
  unfold accM; rw [List.take_succ_eq_append_getElem h, List.filter_append, List.flatMap_append]; simp [hd]
theorem accM_len {p : Int → Bool} {l : List TRule} (h : ∀ r ∈ l, RLim r) : ∀ k, k ≤ l.length → (accM p (l.take k)).length ≤ 120 * k := by
  intro k
  induction k with
  | zero => intro _; simp [accM]
  | succ k ih =>
    intro hk
    have hk' : k < l.length := by omega
    have := ih (by omega)
    cases e : p (rlD l[k]) with
    | true =>
      rw [accM_t hk' e, List.append_assoc, List.length_append]
      have := rms_len (h l[k] (List.getElem_mem hk')); unfold rms at this; omega
    | false => rw [accM_f hk' e]; omega
theorem reachL_len (n : Nat) (dd : List (List Int)) (d : Int) : (reachL n dd d).length ≤ n := by unfold reachL; rw [List.length_map]; exact Nat.le_trans (List.length_filter_le _ _) (by simp)
theorem take_app2 (R a b : List Int) : (((R.drop 0).take R.length ++ a).drop 0).take (R.length + a.length) ++ b = R ++ a ++ b := by simp only [List.drop_zero, List.take_length]; rw [List.take_of_length_le (by simp)]
theorem inN_of {n : Nat} {d : Int} (h0 : 0 ≤ d) (h1 : d < n) : inN n d = true := by simp [inN]; omega
theorem inN_no {n : Nat} {d : Int} (h : inN n d = false) (h0 : 0 ≤ d) : (n : Int) ≤ d := by simp [inN] at h; omega

theorem trans_ok (s : TScope) (d : Int) (hL : Lim s) : Ct Try.prog 15 [.tv rScope s, .raw (.int .i64 d)] (.tv (rSlice (rInt .i64)) (trns s d)) := by
  refine ct_intro Try.func15 rfl rfl Try.ntmps15 rfl rfl ?_
  intro w0 ok0
  have hN : scN s = s.2.2.2.1.length := rfl
  refine j_seq ?_
  refine j_region ?_
  refine jg_os _ rfl (op_box (.tv (.base rfl)) rfl rfl rfl) ?_
  refine jg_adr _ rfl _ rfl rfl (op_assign (.base rfl)) ?_
  refine jg_nil ?_
  refine jn_keep [1, 2] [2] (.cons rfl (.cons rfl .nil)) (.cons rfl .nil) ?_
  refine jn_seq (j_seq (j_seq ?_))
  refine j_region ?_
  refine jg_adr _ rfl _ rfl rfl (op_move (.base rfl)) ?_
  refine jg_adr _ rfl _ rfl rfl (op_lss (.base rfl) (.base rfl)) ?_
  refine jg_adr _ rfl _ rfl rfl (op_move (.base rfl)) ?_
  refine jg_gd _ _ _ _ _ _ rfl rfl rfl rfl rfl (fun hg => op_move (.base rfl)) ?_
  refine jg_gd _ _ _ _ _ _ rfl rfl rfl rfl rfl (fun hg => op_ofield fld25_3 (.base rfl)) ?_
  refine jg_gd _ _ _ _ _ _ rfl rfl rfl rfl rfl (fun hg => op_oload ty22 (.gd rfl hg) rfl rfl ln25_3) ?_
  refine jg_gd _ _ _ _ _ _ rfl rfl rfl rfl rfl (fun hg => op_len Try.underlying22 (.gd rfl hg)) ?_
  refine jg_gd _ _ _ _ _ _ rfl rfl rfl rfl rfl (fun hg => op_geq (.gd rfl hg) (.gd rfl hg)) ?_
  refine jg_adr _ rfl _ rfl rfl (op_pick_or (.base rfl) (.base rfl) rfl (by intro h; first | (rw [h]; rfl) | (rw [hg, h]; rfl) | (rw [h, hg]; rfl) | simp_all)) ?_
  refine jg_nil ?_
  refine jn_keep [1, 2, 13] [2] (.cons rfl (.cons rfl (.cons rfl .nil))) (.cons rfl .nil) ?_
  refine jn_seq ?_
  refine j_cond rfl (fun h1 => ?_) (fun h1 => ?_)
  · have h1 : inN (scN s) d = false := by
      by_cases e1 : d < 0
      · simp [inN]; omega
      · simp [e1] at h1; simp [inN]; omega
    refine j_seq ?_
    refine j_region ?_
    refine jg_adr _ rfl _ rfl rfl (op_assign (.base rfl)) ?_
    refine jg_nil ?_
    refine jn_keep [4] [] (.cons rfl .nil) .nil ?_
    refine jn_seq (j_ret (jr_seq ?_))
    exact jr_fin1 Try.results15 (res_nil rfl) rfl (congrArg (SV.tv (rSlice (rInt .i64))) (by unfold trns; rw [if_neg (by rw [h1]; decide)]))
  · have h1 : inN (scN s) d = true := by
      by_cases e1 : d < 0
      · simp [e1] at h1
      · simp [e1] at h1; simp [inN]; omega
    have hd0 : 0 ≤ d ∧ d < scN s := by simp [inN] at h1; omega
    have w := allD_wf s
    have hN2 := hL.1
    refine j_skip (jn_seq (j_seq ?_))
    refine j_region ?_
    refine jg_adr _ rfl _ rfl rfl (op_oload ty25 (.base rfl) rfl rfl (Lens.id _)) ?_
    refine jg_adr _ rfl _ rfl rfl (op_call (allDirect_ok s hL) (.cons (.base rfl) .nil) rfl rfl) ?_
    refine jg_adr _ rfl _ rfl rfl (op_move (.base rfl)) ?_
    refine jg_adr _ rfl _ rfl rfl (op_call (reached_ok (scN s) (allD s) d w (by omega) (by omega) (by omega)) (.cons (.base rfl) (.cons (.base rfl) .nil)) rfl rfl) ?_
    refine jg_adr _ rfl _ rfl rfl (op_assign (.base rfl)) ?_
    refine jg_nil ?_
    refine jn_keep [4] [] (.cons rfl .nil) .nil ?_
    refine jn_seq (j_ret ?_)
    exact jr_fin1 Try.results15 (res_tmp rfl) rfl (congrArg (SV.tv (rSlice (rInt .i64))) (by unfold trns; rw [if_pos h1]))

theorem members_ok (s : TScope) (d : Int) (hL : Lim s) : Ct Try.prog 19 [.tv rScope s, .raw (.int .i64 d)] (.tv (rSlice (rInt .i64)) (mems s d)) := by
  refine ct_intro Try.func19 rfl rfl Try.ntmps19 rfl rfl ?_
  intro w0 ok0
  have hN : scN s = s.2.2.2.1.length := rfl
  refine j_seq ?_
  refine j_region ?_
  refine jg_os _ rfl (op_box (.tv (.base rfl)) rfl rfl rfl) ?_
  refine jg_adr _ rfl _ rfl rfl (op_assign (.base rfl)) ?_
  refine jg_nil ?_
  refine jn_keep [1, 2] [2] (.cons rfl (.cons rfl .nil)) (.cons rfl .nil) ?_
  refine jn_seq (j_seq (j_seq ?_))
  refine j_region ?_
  refine jg_adr _ rfl _ rfl rfl (op_move (.base rfl)) ?_
  refine jg_adr _ rfl _ rfl rfl (op_lss (.base rfl) (.base rfl)) ?_
  refine jg_adr _ rfl _ rfl rfl (op_move (.base rfl)) ?_
  refine jg_gd _ _ _ _ _ _ rfl rfl rfl rfl rfl (fun hg => op_move (.base rfl)) ?_
  refine jg_gd _ _ _ _ _ _ rfl rfl rfl rfl rfl (fun hg => op_ofield fld25_3 (.base rfl)) ?_
  refine jg_gd _ _ _ _ _ _ rfl rfl rfl rfl rfl (fun hg => op_oload ty22 (.gd rfl hg) rfl rfl ln25_3) ?_
  refine jg_gd _ _ _ _ _ _ rfl rfl rfl rfl rfl (fun hg => op_len Try.underlying22 (.gd rfl hg)) ?_
  refine jg_gd _ _ _ _ _ _ rfl rfl rfl rfl rfl (fun hg => op_geq (.gd rfl hg) (.gd rfl hg)) ?_
  refine jg_adr _ rfl _ rfl rfl (op_pick_or (.base rfl) (.base rfl) rfl (by intro h; first | (rw [h]; rfl) | (rw [hg, h]; rfl) | (rw [h, hg]; rfl) | simp_all)) ?_
  refine jg_nil ?_
  refine jn_keep [1, 2, 25] [2] (.cons rfl (.cons rfl (.cons rfl .nil))) (.cons rfl .nil) ?_
  refine jn_seq ?_
  refine j_cond rfl (fun h1 => ?_) (fun h1 => ?_)
  · have h1 : inN (scN s) d = false := by
      by_cases e1 : d < 0
      · simp [inN]; omega
      · simp [e1] at h1; simp [inN]; omega
    refine j_seq ?_
    refine j_region ?_
    refine jg_adr _ rfl _ rfl rfl (op_assign (.base rfl)) ?_
    refine jg_nil ?_
    refine jn_keep [4] [] (.cons rfl .nil) .nil ?_
    refine jn_seq (j_ret (jr_seq ?_))
    exact jr_fin1 Try.results19 (res_nil rfl) rfl (congrArg (SV.tv (rSlice (rInt .i64))) (by unfold mems; rw [if_neg (by rw [h1]; decide)]))
  · have h1 : inN (scN s) d = true := by
      by_cases e1 : d < 0
      · simp [e1] at h1
      · simp [e1] at h1; simp [inN]; omega
    have hd0 : 0 ≤ d ∧ d < scN s := by simp [inN] at h1; omega
    have w := allD_wf s
    have hN2 := hL.1
    refine j_skip (jn_seq (j_seq ?_))
    refine j_region ?_
    refine jg_adr _ rfl _ rfl rfl (op_ofield fld25_3 (.base rfl)) ?_
    refine jg_adr _ rfl _ rfl rfl (op_oload ty22 (.base rfl) rfl rfl ln25_3) ?_
    refine jg_adr _ rfl _ rfl rfl (op_len Try.underlying22 (.base rfl)) ?_
    refine jg_os _ rfl (op_make Try.underlying61 ty4 z4 rfl by4 (.base rfl) (.base rfl) (by omega) (by unfold maxLen; omega) rfl rfl rfl) ?_
    refine jg_adr _ rfl _ rfl rfl (op_assign (.base rfl)) ?_
    refine jg_nil ?_
    refine jn_keep [1, 2, 5] [2, 29] (.cons rfl (.cons rfl (.cons rfl .nil))) (.cons rfl (.cons rfl .nil)) ?_
    refine jn_seq (j_seq ?_)
    refine j_region ?_
    refine jg_adr _ rfl _ rfl rfl (op_move (.base rfl)) ?_
    refine jg_adr _ rfl _ rfl rfl (op_move (.base rfl)) ?_
    refine jg_adr _ rfl _ rfl rfl (op_oindex Try.underlying61 ty4 (.base rfl) (.base rfl) (show d = ((d.toNat : Nat) : Int) by omega) (by first | omega | (simp; done) | (simp; omega))) ?_
    refine jg_os _ rfl (op_ostore ty4 (.base rfl) rfl (List.getElem?_eq_getElem (by first | omega | (simp; done) | (simp; omega))) (Lens.id _) (.raw (.base rfl) rfl)) ?_
    refine jg_nil ?_
    refine jn_keep [1, 2, 5] [2, 29] (.cons rfl (.cons rfl (.cons rfl .nil))) (.cons rfl (.cons rfl .nil)) ?_
    refine jn_seq (j_seq (j_seq ?_))
    refine j_region ?_
    refine jg_adr _ rfl _ rfl rfl (op_oload ty25 (.base rfl) rfl rfl (Lens.id _)) ?_
    refine jg_adr _ rfl _ rfl rfl (op_call (allDirect_ok s hL) (.cons (.base rfl) .nil) rfl rfl) ?_
    refine jg_adr _ rfl _ rfl rfl (op_move (.base rfl)) ?_
    refine jg_adr _ rfl _ rfl rfl (op_call (reached_ok (scN s) (allD s) d w (by omega) (by omega) (by omega)) (.cons (.base rfl) (.cons (.base rfl) .nil)) rfl rfl) ?_
    refine jg_adr _ rfl _ rfl rfl (op_len Try.underlying28 (.base rfl)) ?_
    refine jg_adr _ rfl _ rfl rfl (op_move (.base rfl)) ?_
    have hrl := reachL_len (scN s) (allD s) d
    refine jg_nil ?_
    refine jn_keep [2, 5, 36, 37, 38] [2, 29] (.cons rfl (.cons rfl (.cons rfl (.cons rfl (.cons rfl .nil))))) (.cons rfl (.cons rfl .nil)) ?_
    refine jn_seq (j_block ?_)
    refine j_loopp (ι := (Nat × List Bool)) (fun (k, Wl) => ⟨[(2, .optr 2 rScope.n 0 0), (5, .own 29 rBool.n 0 (scN s)), (36, .tv (rSlice (rInt .i64)) (reachL (scN s) (allD s) d)), (37, .raw (.int .i64 ((reachL (scN s) (allD s) d).length))), (38, .raw (.int .i64 ((k : Nat))))], [(2, ⟨rScope, [s]⟩), (29, ⟨rBool, Wl⟩)]⟩) (fun (k, Wl) => k ≤ (reachL (scN s) (allD s) d).length ∧ Wl.length = scN s ∧ ∀ x : Int, 0 ≤ x → x < scN s → (sn Wl x = true ↔ (x = d ∨ x ∈ (reachL (scN s) (allD s) d).take k))) (fun (k, Wl) => (reachL (scN s) (allD s) d).length - k) (0, (List.replicate (scN s) false).set d.toNat true) (⟨Nat.zero_le _, by simp, fun x hx hxn => by rw [sn_set hd0.1 hx (by simp; omega)]; by_cases e : x = d; (simp [e]); (rw [if_neg e]; simp [e, sn]; rw [List.getElem?_replicate]; split <;> simp)⟩) (fun a w hi => Sub.inv ⟨(by repeat (first | exact SubS_nil | refine SubS_cons rfl (by first | rfl | (simp; done) | assumption) ?_)), (by repeat (first | exact SubH_nil | refine SubH_cons rfl (by first | rfl | (simp; done) | assumption | (refine congrArg (HB.mk rBool) ?_; rw [Nat.zero_add]; done)) ?_))⟩ hi) ?_
    rintro ⟨k, Wl⟩ ⟨hk, hwl, hws⟩
    refine j_seq ?_
    refine j_region ?_
    refine jg_adr _ rfl _ rfl rfl (op_lss (.base rfl) (.base rfl)) ?_
    refine jg_nil ?_
    refine jn_keep [2, 5, 36, 37, 38, 39] [2, 29] (.cons rfl (.cons rfl (.cons rfl (.cons rfl (.cons rfl (.cons rfl .nil)))))) (.cons rfl (.cons rfl .nil)) ?_
    refine jn_seq (j_seq ?_)
    refine j_cond rfl (fun h6 => ?_) (fun h6 => ?_)
    · have h6 : k < (reachL (scN s) (allD s) d).length := by simp at h6; omega
      refine j_skip (jn_seq (j_seq (j_block (j_seq ?_))))
      refine j_region ?_
      refine jg_adr _ rfl _ rfl rfl (op_index Try.underlying28 ty3 (.base rfl) (.base rfl) rfl (List.getElem?_eq_getElem (by first | omega | (simp; done) | (simp; omega) | (simp at hg; omega)))) ?_
      refine jg_adr _ rfl _ rfl rfl (op_load ty3 (.base rfl)) ?_
      refine jg_adr _ rfl _ rfl rfl (op_assign (.base rfl)) ?_
      obtain ⟨e, hee⟩ : ∃ e, e = (reachL (scN s) (allD s) d)[k] := ⟨_, rfl⟩
      rw [← hee]
      have hem : e ∈ (reachL (scN s) (allD s) d) := by rw [hee]; exact List.getElem_mem h6
      have hein : 0 ≤ e ∧ e < scN s := by
        rw [reachL_mem w] at hem
        cases hem with
        | one q => exact w.ent _ _ q
        | step _ q => exact w.ent _ _ q
      have hec : e = ((e.toNat : Nat) : Int) := by omega
      have hel : e.toNat < Wl.length := by omega
      have hwn : ∀ x : Int, 0 ≤ x → x < scN s → (sn (Wl.set e.toNat true) x = true ↔ (x = d ∨ x ∈ (reachL (scN s) (allD s) d).take (k + 1))) := fun x hx hxn => by
        rw [sn_set hein.1 hx hel, List.take_succ_eq_append_getElem h6, ← hee]
        by_cases q : x = e
        · simp [q]
        · rw [if_neg q, hws x hx hxn]; simp [q]
      refine jg_nil ?_
      refine jn_keep [2, 5, 7, 36, 37, 38] [2, 29] (.cons rfl (.cons rfl (.cons rfl (.cons rfl (.cons rfl (.cons rfl .nil)))))) (.cons rfl (.cons rfl .nil)) ?_
      refine jn_seq ?_
      refine j_region ?_
      refine jg_adr _ rfl _ rfl rfl (op_move (.base rfl)) ?_
      refine jg_adr _ rfl _ rfl rfl (op_move (.base rfl)) ?_
      refine jg_adr _ rfl _ rfl rfl (op_oindex Try.underlying61 ty4 (.base rfl) (.base rfl) hec (by first | omega | (simp; done) | (simp; omega))) ?_
      refine jg_os _ rfl (op_ostore ty4 (.base rfl) rfl (List.getElem?_eq_getElem (by first | omega | (simp; done) | (simp; omega))) (Lens.id _) (.raw (.base rfl) rfl)) ?_
      refine jg_nil ?_
      refine jn_keep [2, 5, 36, 37, 38] [2, 29] (.cons rfl (.cons rfl (.cons rfl (.cons rfl (.cons rfl .nil))))) (.cons rfl (.cons rfl .nil)) ?_
      refine jn_blk (jn_seq ?_)
      refine j_region ?_
      refine jg_adr _ rfl _ rfl rfl (op_add (.base rfl) (.base rfl) (w64 (by omega))) ?_
      refine jg_adr _ rfl _ rfl rfl (op_move (.base rfl)) ?_
      refine jg_nil ?_
      refine jn_keep [2, 5, 36, 37, 38] [2, 29] (.cons rfl (.cons rfl (.cons rfl (.cons rfl (.cons rfl .nil))))) (.cons rfl (.cons rfl .nil)) ?_
      exact jn_loop (fun a w hi => ⟨(k + 1, Wl.set e.toNat true), (by show (reachL (scN s) (allD s) d).length - (k + 1) < (reachL (scN s) (allD s) d).length - k; omega), ⟨by omega, by simp [hwl], hwn⟩, Sub.inv ⟨(by repeat (first | exact SubS_nil | refine SubS_cons rfl (by first | rfl | (simp; done) | assumption) ?_)), (by repeat (first | exact SubH_nil | refine SubH_cons rfl (by first | rfl | (simp; done) | assumption | (refine congrArg (HB.mk rBool) ?_; rw [Nat.zero_add]; done)) ?_))⟩ hi⟩)
    · have h6 : k = (reachL (scN s) (allD s) d).length := by simp at h6; omega
      rw [h6, List.take_length] at hws
      refine j_exit (je_seq (je_loop (je_blk (jn_seq (j_seq ?_)))))
      refine j_region ?_
      refine jg_adr _ rfl _ rfl rfl (op_assign (.base rfl)) ?_
      refine jg_nil ?_
      refine jn_keep [2, 5, 8] [2, 29] (.cons rfl (.cons rfl (.cons rfl .nil))) (.cons rfl (.cons rfl .nil)) ?_
      refine jn_seq (j_seq (j_seq ?_))
      refine j_region ?_
      refine jg_adr _ rfl _ rfl rfl (op_ofield fld25_4 (.base rfl)) ?_
      refine jg_adr _ rfl _ rfl rfl (op_oload ty23 (.base rfl) rfl rfl ln25_4) ?_
      refine jg_adr _ rfl _ rfl rfl (op_len Try.underlying23 (.base rfl)) ?_
      refine jg_adr _ rfl _ rfl rfl (op_move (.base rfl)) ?_
      refine jg_nil ?_
      refine jn_keep [2, 5, 8, 47, 48, 49] [2, 29] (.cons rfl (.cons rfl (.cons rfl (.cons rfl (.cons rfl (.cons rfl .nil)))))) (.cons rfl (.cons rfl .nil)) ?_
      refine jn_seq (j_block ?_)
      refine j_vac 70 8 (rInt .i64) rfl rfl rfl ?_
      refine j_loopp (ι := Nat) (fun k => ⟨[(2, .optr 2 rScope.n 0 0), (5, .own 29 rBool.n 0 (scN s)), (8, .own 70 (rInt .i64).n 0 (accM (wnt s d) ((scR s).take k)).length), (47, .tv (rSlice rRule) (scR s)), (48, .raw (.int .i64 ((scR s).length))), (49, .raw (.int .i64 ((k : Nat))))], [(2, ⟨rScope, [s]⟩), (29, ⟨rBool, Wl⟩), (70, ⟨rInt .i64, (accM (wnt s d) ((scR s).take k))⟩)]⟩) (fun k => k ≤ (scR s).length) (fun k => (scR s).length - k) 0 (Nat.zero_le _) (fun a w hi => (Sub.inv ⟨(by repeat (first | exact SubS_nil | refine SubS_cons rfl (by first | rfl | (simp; done) | assumption) ?_)), (by repeat (first | exact SubH_nil | refine SubH_cons rfl (by first | rfl | (simp; done) | assumption) ?_))⟩ hi)) ?_
      rintro k hk
      have hal := accM_len (p := wnt s d) hL.2.2 k hk
      have hR2 := hL.2.1
      refine j_seq ?_
      refine j_region ?_
      refine jg_adr _ rfl _ rfl rfl (op_lss (.base rfl) (.base rfl)) ?_
      refine jg_nil ?_
      refine jn_keep [2, 5, 8, 47, 48, 49, 50] [2, 29, 70] (.cons rfl (.cons rfl (.cons rfl (.cons rfl (.cons rfl (.cons rfl (.cons rfl .nil))))))) (.cons rfl (.cons rfl (.cons rfl .nil))) ?_
      refine jn_seq (j_seq ?_)
      refine j_cond rfl (fun h12 => ?_) (fun h12 => ?_)
      · have h12 : k < (scR s).length := by simp at h12; omega
        have hrl3 := lim_rule hL h12
        have hu1 : (uniqS (refs pMem ((scR s)[k]).2.2.2.2.2.1)).length ≤ 60 := Nat.le_trans (ur_len _ _) hrl3.1
        have hu2 : (uniqS (refs pMem ((scR s)[k]).2.2.2.2.2.2.1)).length ≤ 60 := Nat.le_trans (ur_len _ _) hrl3.2
        have hg1 : ((scR s)[k]).2.2.2.2.2.1.length ≤ 60 := hrl3.1
        have hg2 : ((scR s)[k]).2.2.2.2.2.2.1.length ≤ 60 := hrl3.2
        refine j_skip (jn_seq (j_seq (j_block (j_seq ?_))))
        refine j_region ?_
        refine jg_adr _ rfl _ rfl rfl (op_index Try.underlying23 ty41 (.base rfl) (.base rfl) rfl (List.getElem?_eq_getElem (by first | omega | (simp; done) | (simp; omega) | (simp at hg; omega)))) ?_
        refine jg_adr _ rfl _ rfl rfl (op_load ty41 (.base rfl)) ?_
        refine jg_os _ rfl (op_alloc _ z41 rfl rfl rfl) ?_
        refine jg_os _ rfl (op_ostore ty41 (.base rfl) rfl rfl (Lens.id _) (.tv (.base rfl))) ?_
        refine jg_nil ?_
        refine jn_keep [2, 5, 8, 10, 47, 48, 49] [2, 10, 29, 70] (.cons rfl (.cons rfl (.cons rfl (.cons rfl (.cons rfl (.cons rfl (.cons rfl .nil))))))) (.cons rfl (.cons rfl (.cons rfl (.cons rfl .nil)))) ?_
        refine jn_seq (j_seq (j_seq ?_))
        refine j_region ?_
        refine jg_adr _ rfl _ rfl rfl (op_ofield fld41_1 (.base rfl)) ?_
        refine jg_adr _ rfl _ rfl rfl (op_oload ty3 (.base rfl) rfl rfl ln41_1) ?_
        refine jg_adr _ rfl _ rfl rfl (op_lss (.base rfl) (.base rfl)) ?_
        refine jg_adr _ rfl _ rfl rfl (op_move (.base rfl)) ?_
        refine jg_gd _ _ _ _ _ _ rfl rfl rfl rfl rfl (fun hg => op_ofield fld41_1 (.base rfl)) ?_
        refine jg_gd _ _ _ _ _ _ rfl rfl rfl rfl rfl (fun hg => op_oload ty3 (.gd rfl hg) rfl rfl ln41_1) ?_
        refine jg_gd _ _ _ _ _ _ rfl rfl rfl rfl rfl (fun hg => op_ofield fld25_3 (.base rfl)) ?_
        refine jg_gd _ _ _ _ _ _ rfl rfl rfl rfl rfl (fun hg => op_oload ty22 (.gd rfl hg) rfl rfl ln25_3) ?_
        refine jg_gd _ _ _ _ _ _ rfl rfl rfl rfl rfl (fun hg => op_len Try.underlying22 (.gd rfl hg)) ?_
        refine jg_gd _ _ _ _ _ _ rfl rfl rfl rfl rfl (fun hg => op_geq (.gd rfl hg) (.gd rfl hg)) ?_
        refine jg_adr _ rfl _ rfl rfl (op_pick_or (.base rfl) (.base rfl) rfl (by intro h; first | (rw [h]; rfl) | (rw [hg, h]; rfl) | (rw [h, hg]; rfl) | simp_all)) ?_
        refine jg_adr _ rfl _ rfl rfl (op_move (.base rfl)) ?_
        refine jg_gd _ _ _ _ _ _ rfl rfl rfl rfl rfl (fun hg => op_move (.base rfl)) ?_
        refine jg_gd _ _ _ _ _ _ rfl rfl rfl rfl rfl (fun hg => op_ofield fld41_1 (.base rfl)) ?_
        refine jg_gd _ _ _ _ _ _ rfl rfl rfl rfl rfl (fun hg => op_oload ty3 (.gd rfl hg) rfl rfl ln41_1) ?_
        refine jg_gd _ _ _ _ _ _ rfl rfl rfl rfl rfl (fun hg => op_oindex Try.underlying61 ty4 (.gd rfl hg) (.gd rfl hg) (show ((scR s)[k]).2.1 = ((((scR s)[k]).2.1.toNat : Nat) : Int) by simp at hg; omega) (by first | omega | (simp; done) | (simp; omega) | (simp at hg; omega))) ?_
        refine jg_gd _ _ _ _ _ _ rfl rfl rfl rfl rfl (fun hg => op_oload ty4 (.gd rfl hg) rfl (sn_get (by simp at hg; omega)) (Lens.id _)) ?_
        refine jg_gd _ _ _ _ _ _ rfl rfl rfl rfl rfl (fun hg => op_not (.gd rfl hg)) ?_
        refine jg_adr _ rfl _ rfl rfl (op_pick_or (.base rfl) (.base rfl) rfl (by intro h; first | (rw [h]; rfl) | (rw [hg, h]; rfl) | (rw [h, hg]; rfl) | simp_all)) ?_
        refine jg_nil ?_
        refine jn_keep [2, 5, 8, 10, 47, 48, 49, 71] [2, 10, 29, 70] (.cons rfl (.cons rfl (.cons rfl (.cons rfl (.cons rfl (.cons rfl (.cons rfl (.cons rfl .nil)))))))) (.cons rfl (.cons rfl (.cons rfl (.cons rfl .nil)))) ?_
        refine jn_seq ?_
        refine j_cond rfl (fun h14 => ?_) (fun h14 => ?_)
        · have hpf : wnt s d (rlD (scR s)[k]) = false := by
            have e2 : rlD (scR s)[k] = ((scR s)[k]).2.1 := rfl
            have hmem : ∀ x, (x = d ∨ x ∈ (reachL (scN s) (allD s) d)) → 0 ≤ x ∧ x < scN s := fun x hx => by
              rcases hx with rfl | hx
              · exact hd0
              · rw [reachL_mem w] at hx
                cases hx with
                | one q => exact w.ent _ _ q
                | step _ q => exact w.ent _ _ q
            unfold wnt
            rw [decide_eq_false_iff_not]
            intro q
            obtain ⟨a1, a2⟩ := hmem _ q
            have a3 := (hws _ a1 a2).2 q
            rw [e2] at a1 a2 a3
            have b1 : ¬ ((scR s)[k]).2.1 < 0 := by omega
            have b2 : ¬ ((s.2.2.2.1.length : Nat) : Int) ≤ ((scR s)[k]).2.1 := by omega
            simp [b1, b2, a3] at h14
          have hs := accM_f (p := wnt s d) h12 hpf
          refine j_exit (je_seq (je_blk (jn_seq ?_)))
          refine j_region ?_
          refine jg_adr _ rfl _ rfl rfl (op_add (.base rfl) (.base rfl) (w64 (by omega))) ?_
          refine jg_adr _ rfl _ rfl rfl (op_move (.base rfl)) ?_
          refine jg_nil ?_
          refine jn_keep [2, 5, 8, 47, 48, 49] [2, 29, 70] (.cons rfl (.cons rfl (.cons rfl (.cons rfl (.cons rfl (.cons rfl .nil)))))) (.cons rfl (.cons rfl (.cons rfl .nil))) ?_
          exact jn_loop (fun a w hi => ⟨k + 1, (by first | omega | (simp; omega)), (by omega), Sub.inv ⟨(by repeat (first | exact SubS_nil | refine SubS_cons rfl (by first | rfl | (simp; done) | assumption | (refine congrArg (SV.own 70 (rInt .i64).n 0) ?_; first | rfl | (rw [hs]; simp; done) | (rw [hs]; done) | (rw [hs]; simp [Nat.add_assoc]; done))) ?_)), (by repeat (first | exact SubH_nil | refine SubH_cons rfl (by first | rfl | (simp; done) | assumption | (refine congrArg (HB.mk (rInt .i64)) ?_; first | rfl | (rw [take_app2]; exact hs.symm; done) | (rw [hs]; simp; done) | (rw [hs]; done) | (rw [hs]; (try simp only [List.drop_zero, List.take_length]); first | done | rfl | (simp; done); done))) ?_))⟩ hi⟩)
        · have hpt : wnt s d (rlD (scR s)[k]) = true := by
            have e2 : rlD (scR s)[k] = ((scR s)[k]).2.1 := rfl
            by_cases b1 : ((scR s)[k]).2.1 < 0
            · simp [b1] at h14
            · by_cases b2 : ((s.2.2.2.1.length : Nat) : Int) ≤ ((scR s)[k]).2.1
              · simp [b1, b2] at h14
              · simp [b1, b2] at h14
                unfold wnt
                rw [decide_eq_true_iff, e2]
                exact (hws _ (by omega) (by omega)).1 h14
          have hs := accM_t (p := wnt s d) h12 hpt
          refine j_skip (jn_seq (j_seq ?_))
          refine j_region ?_
          refine jg_adr _ rfl _ rfl rfl (op_ofield fld41_5 (.base rfl)) ?_
          refine jg_adr _ rfl _ rfl rfl (op_oload ty39 (.base rfl) rfl rfl ln41_5) ?_
          refine jg_adr _ rfl _ rfl rfl (op_call (refs_ok _ (by omega)) (.cons (.base rfl) .nil) rfl rfl) ?_
          refine jg_adr _ rfl _ rfl rfl (op_move (.base rfl)) ?_
          refine jg_adr _ rfl _ rfl rfl (op_ext30 (.base rfl)) ?_
          refine jg_adr _ rfl _ rfl rfl (op_ext31 (.base rfl)) ?_
          refine jg_adr _ rfl _ rfl rfl (op_ext32 (.base rfl)) ?_
          refine jg_adr _ rfl _ rfl rfl (op_assign (.base rfl)) ?_
          refine jg_adr _ rfl _ rfl rfl (op_assign (.base rfl)) ?_
          refine jg_adr _ rfl _ rfl rfl (op_assign (.base rfl)) ?_
          refine jg_nil ?_
          refine jn_keep [2, 5, 8, 10, 13, 47, 48, 49] [2, 10, 29, 70] (.cons rfl (.cons rfl (.cons rfl (.cons rfl (.cons rfl (.cons rfl (.cons rfl (.cons rfl .nil)))))))) (.cons rfl (.cons rfl (.cons rfl (.cons rfl .nil)))) ?_
          refine jn_seq (j_seq ?_)
          refine j_region ?_
          refine jg_adr _ rfl _ rfl rfl (op_ofield fld41_6 (.base rfl)) ?_
          refine jg_adr _ rfl _ rfl rfl (op_oload ty39 (.base rfl) rfl rfl ln41_6) ?_
          refine jg_adr _ rfl _ rfl rfl (op_call (refs_ok _ (by omega)) (.cons (.base rfl) .nil) rfl rfl) ?_
          refine jg_adr _ rfl _ rfl rfl (op_move (.base rfl)) ?_
          refine jg_adr _ rfl _ rfl rfl (op_ext30 (.base rfl)) ?_
          refine jg_adr _ rfl _ rfl rfl (op_ext31 (.base rfl)) ?_
          refine jg_adr _ rfl _ rfl rfl (op_ext32 (.base rfl)) ?_
          refine jg_adr _ rfl _ rfl rfl (op_assign (.base rfl)) ?_
          refine jg_adr _ rfl _ rfl rfl (op_assign (.base rfl)) ?_
          refine jg_adr _ rfl _ rfl rfl (op_assign (.base rfl)) ?_
          refine jg_nil ?_
          refine jn_keep [2, 5, 8, 13, 16, 47, 48, 49] [2, 29, 70] (.cons rfl (.cons rfl (.cons rfl (.cons rfl (.cons rfl (.cons rfl (.cons rfl (.cons rfl .nil)))))))) (.cons rfl (.cons rfl (.cons rfl .nil))) ?_
          refine jn_seq (j_seq ?_)
          refine j_region ?_
          refine jg_adr _ rfl _ rfl rfl (op_move (.base rfl)) ?_
          refine jg_adr _ rfl _ rfl rfl (op_move (.base rfl)) ?_
          refine jg_os _ rfl (op_append [2, 5, 16, 47, 48, 49] Try.underlying28 ty3 z3 rfl by3 (.base rfl) rfl (by (try simp); try omega) (.tv (.base rfl)) (by unfold maxLen; (try simp); try omega) (by (try simp); try omega) rfl (.cons rfl (.cons rfl (.cons rfl (.cons rfl (.cons rfl (.cons rfl .nil)))))) rfl) ?_
          refine jg_adr _ rfl _ rfl rfl (op_assign (.base rfl)) ?_
          refine jg_nil ?_
          refine jn_keep [2, 5, 8, 16, 47, 48, 49] [2, 29, 70] (.cons rfl (.cons rfl (.cons rfl (.cons rfl (.cons rfl (.cons rfl (.cons rfl .nil))))))) (.cons rfl (.cons rfl (.cons rfl .nil))) ?_
          refine jn_seq ?_
          refine j_region ?_
          refine jg_adr _ rfl _ rfl rfl (op_move (.base rfl)) ?_
          refine jg_adr _ rfl _ rfl rfl (op_move (.base rfl)) ?_
          refine jg_os _ rfl (op_append [2, 5, 47, 48, 49] Try.underlying28 ty3 z3 rfl by3 (.base rfl) rfl (by (try simp); try omega) (.tv (.base rfl)) (by unfold maxLen; (try simp); try omega) (by (try simp); try omega) rfl (.cons rfl (.cons rfl (.cons rfl (.cons rfl (.cons rfl .nil))))) rfl) ?_
          refine jg_adr _ rfl _ rfl rfl (op_assign (.base rfl)) ?_
          refine jg_nil ?_
          refine jn_keep [2, 5, 8, 47, 48, 49] [2, 29, 70] (.cons rfl (.cons rfl (.cons rfl (.cons rfl (.cons rfl (.cons rfl .nil)))))) (.cons rfl (.cons rfl (.cons rfl .nil))) ?_
          refine jn_blk (jn_seq ?_)
          refine j_region ?_
          refine jg_adr _ rfl _ rfl rfl (op_add (.base rfl) (.base rfl) (w64 (by omega))) ?_
          refine jg_adr _ rfl _ rfl rfl (op_move (.base rfl)) ?_
          refine jg_nil ?_
          refine jn_keep [2, 5, 8, 47, 48, 49] [2, 29, 70] (.cons rfl (.cons rfl (.cons rfl (.cons rfl (.cons rfl (.cons rfl .nil)))))) (.cons rfl (.cons rfl (.cons rfl .nil))) ?_
          exact jn_loop (fun a w hi => ⟨k + 1, (by first | omega | (simp; omega)), (by omega), Sub.inv ⟨(by repeat (first | exact SubS_nil | refine SubS_cons rfl (by first | rfl | (simp; done) | assumption | (refine congrArg (SV.own 70 (rInt .i64).n 0) ?_; first | rfl | (rw [hs]; simp; done) | (rw [hs]; done) | (rw [hs]; simp [Nat.add_assoc]; done))) ?_)), (by repeat (first | exact SubH_nil | refine SubH_cons rfl (by first | rfl | (simp; done) | assumption | (refine congrArg (HB.mk (rInt .i64)) ?_; first | rfl | (rw [take_app2]; exact hs.symm; done) | (rw [hs]; simp; done) | (rw [hs]; done) | (rw [hs]; (try simp only [List.drop_zero, List.take_length]); first | done | rfl | (simp; done); done))) ?_))⟩ hi⟩)
      · have h12 : k = (scR s).length := by simp at h12; omega
        subst h12
        rw [List.take_length]
        refine j_exit (je_seq (je_loop (je_blk (jn_seq (j_seq ?_)))))
        refine j_region ?_
        refine jg_adr _ rfl _ rfl rfl (op_move (.base rfl)) ?_
        refine jg_os _ rfl (op_turn1 turn_sortedSet (.base rfl) rfl (by rfl) (by rw [List.take_length] at hal; omega) rfl) ?_
        refine jg_adr _ rfl _ rfl rfl (op_assign (.base rfl)) ?_
        refine jg_nil ?_
        refine jn_keep [4] [70] (.cons rfl .nil) (.cons rfl .nil) ?_
        refine jn_seq (j_ret ?_)
        refine jr_seal (rt := rInt .i64) 70 4 (dropH 70 _) rfl rfl (by rw [dst_len16, Nat.zero_add]; exact uniqS_len _) (dropH_sub 70 _) (dropH_no 70 _) ?_
        exact jr_fin1 Try.results19 (res_tmp rfl) rfl (congrArg (SV.tv (rSlice (rInt .i64))) (by unfold mems; rw [List.drop_zero, dst_take, if_pos h1]))

end Go.Proofs.Ytemcooggkcneiaa
