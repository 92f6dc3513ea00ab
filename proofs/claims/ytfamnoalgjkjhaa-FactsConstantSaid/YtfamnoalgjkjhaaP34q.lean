import Derived.Test.YtfamnoalgjkjhaaP34p
import Derived.Test.YtfamnoalgjkjhaaM4
namespace Go.Proofs.Ytfamnoalgjkjhaa
open Go.Eng
set_option maxRecDepth 100000
set_option maxHeartbeats 4000000
set_option linter.unusedVariables false
set_option linter.unusedSimpArgs false

noncomputable def mK47 : KeyT Try.prog 3 Int := keyInt Try.underlying3
noncomputable def mE : ElT Try.prog 4 Bool false := elBool Try.underlying4 Try.zeroValue4
theorem int_val (x : Int) (w : World) (ok : Ok) (v : Value) (h : (rInt .i64).val w ok v x) : v = .int .i64 x := by
  obtain ⟨cs, h1, rfl⟩ := h
  have h1 : cs = [.int .i64 x] := h1
  subst h1; rfl
/-- the Ids seen in the first k facts -/
def seenF (l : List TFact) (k : Nat) : Int → Option Bool := fun x => if dupB l k x = true then some true else none
theorem seen_get (l : List TFact) (k : Nat) (x : Int) : (seenF l k x).getD false = dupB l k x := by unfold seenF; cases dupB l k x <;> rfl
theorem seen_upd {l : List TFact} {k : Nat} (h : k < l.length) : updK (seenF l k) l[k].1 true = seenF l (k + 1) := by
  funext x
  unfold updK seenF
  rw [dup_succ h]
  by_cases e : x = l[k].1
  · subst e; simp
  · rw [if_neg e]; have : decide (l[k].1 = x) = false := by simpa using fun q => e q.symm
    rw [this, Bool.or_false]
theorem seen_zero (l : List TFact) : seenF l 0 = fun _ => none := by funext x; unfold seenF dupB; simp
theorem fault_chk {l : List TFact} {k : Nat} (h : k < l.length) (hc : chk l[k] ≠ 0) : faultF l k = chk l[k] := by unfold faultF; rw [getF h, if_pos hc]
theorem fault_dup {l : List TFact} {k : Nat} (h : k < l.length) (hc : chk l[k] = 0) (hd : dupB l k l[k].1 = true) : faultF l k = 7 := by unfold faultF; rw [getF h, if_neg (by rw [hc]; simp), if_pos hd]
theorem fault_no {l : List TFact} {k : Nat} (h : k < l.length) (hc : chk l[k] = 0) (hd : dupB l k l[k].1 = false) : faultF l k = 0 := by unfold faultF; rw [getF h, if_neg (by rw [hc]; simp), if_neg (by rw [hd]; simp)]

theorem fvalidate_ok (l : List TFact) (hI : ∀ x ∈ l, mK47.ok x.1) : Ct Try.prog 9 [.tv (rSlice rFact) l] (.tup2 (.raw (.int .i64 (valF l).1)) (.raw (.int .i64 (valF l).2))) := by
  refine ct_intro Try.func9 rfl rfl Try.ntmps9 rfl rfl ?_
  intro w0 ok0
  refine j_len 0 rfl (fun hl0 => ?_)
  refine j_seq ?_
  refine j_region ?_
  refine jg_adr _ rfl _ rfl rfl (op_assign (.base rfl)) ?_
  refine jg_adr _ rfl _ rfl rfl (op_assign (.base rfl)) ?_
  refine jg_nil ?_
  refine jn_keep [0] [] (.cons rfl .nil) .nil ?_
  refine jn_seq (j_seq (j_seq ?_))
  refine j_region ?_
  refine jg_adr _ rfl _ rfl rfl (op_move (.base rfl)) ?_
  refine jg_adr _ rfl _ rfl rfl (op_len Try.underlying22 (.base rfl)) ?_
  refine jg_adr _ rfl _ rfl rfl (op_gtr (.base rfl) (.base rfl)) ?_
  refine jg_nil ?_
  refine jn_keep [0, 10] [] (.cons rfl (.cons rfl .nil)) .nil ?_
  refine jn_seq ?_
  refine j_cond rfl (fun h1 => ?_) (fun h1 => ?_)
  · have h1 : l.length > 128 := by simp at h1; omega
    refine j_seq ?_
    refine j_region ?_
    refine jg_adr _ rfl _ rfl rfl (op_assign (.base rfl)) ?_
    refine jg_adr _ rfl _ rfl rfl (op_assign (.base rfl)) ?_
    refine jg_nil ?_
    refine jn_keep [2, 3] [] (.cons rfl (.cons rfl .nil)) .nil ?_
    refine jn_seq (j_ret (jr_seq ?_))
    exact jr_fin2 Try.results9 (res_tmp rfl) (res_tmp rfl) ⟨rfl, rfl⟩ (by unfold valF; rw [if_pos h1])
  · have h1 : l.length ≤ 128 := by simp at h1; omega
    refine j_skip (jn_seq (j_seq ?_))
    refine j_region ?_
    refine jg_os _ rfl (op_makeMapK mK47 mE rfl rfl) ?_
    refine jg_adr _ rfl _ rfl rfl (op_assign (.base rfl)) ?_
    refine jg_nil ?_
    refine jn_keep [0, 4] [11] (.cons rfl (.cons rfl .nil)) (.cons rfl .nil) ?_
    refine jn_seq (j_seq (j_seq ?_))
    refine j_region ?_
    refine jg_adr _ rfl _ rfl rfl (op_move (.base rfl)) ?_
    refine jg_adr _ rfl _ rfl rfl (op_len Try.underlying22 (.base rfl)) ?_
    refine jg_adr _ rfl _ rfl rfl (op_move (.base rfl)) ?_
    refine jg_nil ?_
    refine jn_keep [4, 12, 13, 14] [11] (.cons rfl (.cons rfl (.cons rfl (.cons rfl .nil)))) (.cons rfl .nil) ?_
    refine jn_seq (j_block ?_)
    refine j_loopp (ι := Nat) (fun k => ⟨[(4, .mref 11), (12, .tv (rSlice rFact) l), (13, .raw (.int .i64 ((l.length : Nat)))), (14, .raw (.int .i64 ((k : Nat))))], [(11, ⟨rMapK mK47 mE, [(none, k, seenF l k)]⟩)]⟩) (fun k => k ≤ l.length ∧ ∀ j, j < k → faultF l j = 0) (fun k => l.length - k) 0 (⟨Nat.zero_le _, fun j hj => by omega⟩) (fun a w hi => Sub.inv ⟨(by repeat (first | exact SubS_nil | refine SubS_cons rfl (by first | rfl | (simp; done) | assumption) ?_)), (by repeat (first | exact SubH_nil | refine SubH_cons rfl (by first | rfl | (simp; done) | assumption | (refine congrArg (fun f => HB.mk (rMapK mK47 mE) [(none, 0, f)]) ?_; exact (seen_zero l).symm) | (refine congrArg (fun f => HB.mk (rMapK mK47 mE) [(none, 0, f)]) ?_; exact (seen_zero l))) ?_))⟩ hi) ?_
    rintro k ⟨hk, hz⟩
    refine j_seq ?_
    refine j_region ?_
    refine jg_adr _ rfl _ rfl rfl (op_lss (.base rfl) (.base rfl)) ?_
    refine jg_nil ?_
    refine jn_keep [4, 12, 13, 14, 15] [11] (.cons rfl (.cons rfl (.cons rfl (.cons rfl (.cons rfl .nil))))) (.cons rfl .nil) ?_
    refine jn_seq (j_seq ?_)
    refine j_cond rfl (fun h5 => ?_) (fun h5 => ?_)
    · have h5 : k < l.length := by simp at h5; omega
      have hok := hI l[k] (List.getElem_mem h5)
      have hsu := seen_upd h5
      refine j_skip (jn_seq (j_seq (j_block (j_seq ?_))))
      refine j_region ?_
      refine jg_adr _ rfl _ rfl rfl (op_move (.base rfl)) ?_
      refine jg_adr _ rfl _ rfl rfl (op_index Try.underlying22 ty45 (.base rfl) (.base rfl) rfl (List.getElem?_eq_getElem (by first | omega | (simp; done) | (simp; omega) | (simp at hg; omega)))) ?_
      refine jg_adr _ rfl _ rfl rfl (op_load ty45 (.base rfl)) ?_
      refine jg_os _ rfl (op_alloc _ z45 rfl rfl rfl) ?_
      refine jg_adr _ rfl _ rfl rfl (op_assign (.base rfl)) ?_
      refine jg_os _ rfl (op_ostore ty45 (.base rfl) rfl rfl (Lens.id _) (.tv (.base rfl))) ?_
      refine jg_nil ?_
      refine jn_keep [4, 5, 6, 12, 13, 14] [6, 11] (.cons rfl (.cons rfl (.cons rfl (.cons rfl (.cons rfl (.cons rfl .nil)))))) (.cons rfl (.cons rfl .nil)) ?_
      refine jn_seq (j_seq (j_seq ?_))
      refine j_region ?_
      refine jg_adr _ rfl _ rfl rfl (op_oload ty45 (.base rfl) rfl rfl (Lens.id _)) ?_
      refine jg_adr _ rfl _ rfl rfl (op_call (chk_ok _) (.cons (.base rfl) .nil) rfl rfl) ?_
      refine jg_adr _ rfl _ rfl rfl (op_assign (.base rfl)) ?_
      refine jg_nil ?_
      refine jn_keep [4, 5, 6, 7, 12, 13, 14] [6, 11] (.cons rfl (.cons rfl (.cons rfl (.cons rfl (.cons rfl (.cons rfl (.cons rfl .nil))))))) (.cons rfl (.cons rfl .nil)) ?_
      refine jn_seq (j_seq ?_)
      refine j_region ?_
      refine jg_adr _ rfl _ rfl rfl (op_move (.base rfl)) ?_
      refine jg_adr _ rfl _ rfl rfl (op_neq (.base rfl) (.base rfl)) ?_
      refine jg_nil ?_
      refine jn_keep [4, 5, 6, 7, 12, 13, 14, 22] [6, 11] (.cons rfl (.cons rfl (.cons rfl (.cons rfl (.cons rfl (.cons rfl (.cons rfl (.cons rfl .nil)))))))) (.cons rfl (.cons rfl .nil)) ?_
      refine jn_seq ?_
      refine j_cond rfl (fun h8 => ?_) (fun h8 => ?_)
      · have h8 : chk l[k] ≠ 0 := by simpa using h8
        refine j_seq ?_
        refine j_region ?_
        refine jg_adr _ rfl _ rfl rfl (op_move (.base rfl)) ?_
        refine jg_adr _ rfl _ rfl rfl (op_move (.base rfl)) ?_
        refine jg_adr _ rfl _ rfl rfl (op_assign (.base rfl)) ?_
        refine jg_adr _ rfl _ rfl rfl (op_assign (.base rfl)) ?_
        refine jg_nil ?_
        refine jn_keep [2, 3] [] (.cons rfl (.cons rfl .nil)) .nil ?_
        refine jn_seq (j_ret (jr_seq (jr_blk (jr_seq (jr_loop (jr_blk (jr_seq ?_)))))))
        exact jr_fin2 Try.results9 (res_tmp rfl) (res_tmp rfl) ⟨rfl, rfl⟩ (by rw [valF_at h1 h5 hz (by rw [fault_chk h5 h8]; exact h8), fault_chk h5 h8])
      · have h8 : chk l[k] = 0 := by simpa using h8
        refine j_skip (jn_seq (j_seq (j_seq ?_)))
        refine j_region ?_
        refine jg_adr _ rfl _ rfl rfl (op_move (.base rfl)) ?_
        refine jg_adr _ rfl _ rfl rfl (op_ofield fld45_0 (.base rfl)) ?_
        refine jg_adr _ rfl _ rfl rfl (op_oload ty3 (.base rfl) rfl rfl ln45_0) ?_
        refine jg_adr _ rfl _ rfl rfl ((show Adr _ _ _ _ (.raw (.bool ((seenF l k l[k].1).getD false))) from op_lookupK (K := mK47) (E := mE) Try.underlying47 (.base rfl) rfl (int_val _) (.raw (.base rfl) rfl) hok)) ?_
        refine jg_nil ?_
        refine jn_keep [4, 5, 6, 12, 13, 14, 28] [6, 11] (.cons rfl (.cons rfl (.cons rfl (.cons rfl (.cons rfl (.cons rfl (.cons rfl .nil))))))) (.cons rfl (.cons rfl .nil)) ?_
        refine jn_seq ?_
        refine j_cond rfl (fun h10 => ?_) (fun h10 => ?_)
        · have h10 : dupB l k l[k].1 = true := by rw [← seen_get]; exact h10
          refine j_seq ?_
          refine j_region ?_
          refine jg_adr _ rfl _ rfl rfl (op_move (.base rfl)) ?_
          refine jg_adr _ rfl _ rfl rfl (op_assign (.base rfl)) ?_
          refine jg_adr _ rfl _ rfl rfl (op_assign (.base rfl)) ?_
          refine jg_nil ?_
          refine jn_keep [2, 3] [] (.cons rfl (.cons rfl .nil)) .nil ?_
          refine jn_seq (j_ret (jr_seq (jr_blk (jr_seq (jr_loop (jr_blk (jr_seq ?_)))))))
          exact jr_fin2 Try.results9 (res_tmp rfl) (res_tmp rfl) ⟨rfl, rfl⟩ (by rw [valF_at h1 h5 hz (by rw [fault_dup h5 h8 h10]; decide), fault_dup h5 h8 h10])
        · have h10 : dupB l k l[k].1 = false := by rw [← seen_get]; simpa using h10
          refine j_skip (jn_seq ?_)
          refine j_region ?_
          refine jg_adr _ rfl _ rfl rfl (op_move (.base rfl)) ?_
          refine jg_adr _ rfl _ rfl rfl (op_ofield fld45_0 (.base rfl)) ?_
          refine jg_adr _ rfl _ rfl rfl (op_oload ty3 (.base rfl) rfl rfl ln45_0) ?_
          refine jg_os _ rfl (op_mapUpdateK (K := mK47) (E := mE) (true) Try.underlying47 (.base rfl) rfl (int_val _) (.raw (.base rfl) rfl) (.base rfl) hok trivial (by unfold maxLen; omega)) ?_
          refine jg_nil ?_
          refine jn_keep [4, 12, 13, 14] [11] (.cons rfl (.cons rfl (.cons rfl (.cons rfl .nil)))) (.cons rfl .nil) ?_
          refine jn_blk (jn_seq ?_)
          refine j_region ?_
          refine jg_adr _ rfl _ rfl rfl (op_add (.base rfl) (.base rfl) (w64 (by omega))) ?_
          refine jg_adr _ rfl _ rfl rfl (op_move (.base rfl)) ?_
          refine jg_nil ?_
          refine jn_keep [4, 12, 13, 14] [11] (.cons rfl (.cons rfl (.cons rfl (.cons rfl .nil)))) (.cons rfl .nil) ?_
          exact jn_loop (fun a w hi => ⟨k + 1, (by first | omega | (simp; omega)), (⟨by omega, fun j hj => by by_cases e : j = k; (subst e; exact fault_no h5 h8 h10); exact hz j (by omega)⟩), Sub.inv ⟨(by repeat (first | exact SubS_nil | refine SubS_cons rfl (by first | rfl | (simp; done) | assumption) ?_)), (by repeat (first | exact SubH_nil | refine SubH_cons rfl (by first | rfl | (simp; done) | assumption | exact congrArg (fun f => HB.mk (rMapK mK47 mE) [(none, k + 1, f)]) hsu) ?_))⟩ hi⟩)
    · have h5 : l.length ≤ k := by simp at h5; omega
      refine j_exit (je_seq (je_loop (je_blk (jn_seq (j_seq ?_)))))
      refine j_region ?_
      refine jg_adr _ rfl _ rfl rfl (op_assign (.base rfl)) ?_
      refine jg_adr _ rfl _ rfl rfl (op_assign (.base rfl)) ?_
      refine jg_nil ?_
      refine jn_keep [2, 3] [] (.cons rfl (.cons rfl .nil)) .nil ?_
      refine jn_seq (j_ret ?_)
      exact jr_fin2 Try.results9 (res_tmp rfl) (res_tmp rfl) ⟨rfl, rfl⟩ (by rw [valF_none h1 (fun j hj => hz j (by omega))])

def distF (l : List TFact) (i : Nat) : Bool := (List.range i).all fun j => !dupB l j (l.getD j zF).1
theorem dist_succ (l : List TFact) (i : Nat) : distF l (i + 1) = (distF l i && !dupB l i (l.getD i zF).1) := by unfold distF; rw [List.range_succ, List.all_append]; simp
theorem dist_mono {l : List TFact} {i j : Nat} (h : distF l j = true) (hij : i ≤ j) : distF l i = true := by
  unfold distF at *; rw [List.all_eq_true] at *; exact fun x hx => h x (by simp at *; omega)

theorem distinct_ok (l : List TFact) : Ct Try.prog 18 [.tv (rSlice rFact) l] (.raw (.bool (distF l l.length))) := by
  refine ct_intro Try.func18 rfl rfl Try.ntmps18 rfl rfl ?_
  intro w0 ok0
  refine j_len 0 rfl (fun hl0 => ?_)
  refine j_seq ?_
  refine j_region ?_
  refine jg_adr _ rfl _ rfl rfl (op_assign (.base rfl)) ?_
  refine jg_nil ?_
  refine jn_keep [0] [] (.cons rfl .nil) .nil ?_
  refine jn_seq (j_seq (j_seq ?_))
  refine j_region ?_
  refine jg_adr _ rfl _ rfl rfl (op_assign (.base rfl)) ?_
  refine jg_nil ?_
  refine jn_keep [0, 3] [] (.cons rfl (.cons rfl .nil)) .nil ?_
  refine jn_seq (j_block ?_)
  refine j_loopp (ι := Nat) (fun i => ⟨[(0, .tv (rSlice rFact) l), (3, .raw (.int .i64 ((i : Nat))))], []⟩) (fun i => i ≤ l.length ∧ distF l i = true) (fun i => l.length - i) 0 (⟨Nat.zero_le _, rfl⟩) (fun a w hi => (Sub.inv ⟨(by repeat (first | exact SubS_nil | refine SubS_cons rfl (by first | rfl | (simp; done) | assumption) ?_)), (by repeat (first | exact SubH_nil | refine SubH_cons rfl (by first | rfl | (simp; done) | assumption) ?_))⟩ hi)) ?_
  rintro i ⟨hi1, hd⟩
  refine j_seq (j_seq ?_)
  refine j_region ?_
  refine jg_adr _ rfl _ rfl rfl (op_move (.base rfl)) ?_
  refine jg_adr _ rfl _ rfl rfl (op_move (.base rfl)) ?_
  refine jg_adr _ rfl _ rfl rfl (op_len Try.underlying22 (.base rfl)) ?_
  refine jg_adr _ rfl _ rfl rfl (op_lss (.base rfl) (.base rfl)) ?_
  refine jg_nil ?_
  refine jn_keep [0, 3, 8] [] (.cons rfl (.cons rfl (.cons rfl .nil))) .nil ?_
  refine jn_seq ?_
  refine j_cond rfl (fun h2 => ?_) (fun h2 => ?_)
  · have h2 : i < l.length := by simp at h2; omega
    refine j_skip (jn_seq (j_seq (j_block (j_seq ?_))))
    refine j_region ?_
    refine jg_adr _ rfl _ rfl rfl (op_assign (.base rfl)) ?_
    refine jg_nil ?_
    refine jn_keep [0, 3, 4] [] (.cons rfl (.cons rfl (.cons rfl .nil))) .nil ?_
    refine jn_seq (j_block ?_)
    refine j_loopp (ι := Nat) (fun k => ⟨[(0, .tv (rSlice rFact) l), (3, .raw (.int .i64 ((i : Nat)))), (4, .raw (.int .i64 ((k : Nat))))], []⟩) (fun k => k ≤ i ∧ dupB l k l[i].1 = false) (fun k => i - k) 0 (⟨Nat.zero_le _, rfl⟩) (fun a w hi => (Sub.inv ⟨(by repeat (first | exact SubS_nil | refine SubS_cons rfl (by first | rfl | (simp; done) | assumption) ?_)), (by repeat (first | exact SubH_nil | refine SubH_cons rfl (by first | rfl | (simp; done) | assumption) ?_))⟩ hi)) ?_
    rintro k ⟨hk, hdk⟩
    refine j_seq (j_seq ?_)
    refine j_region ?_
    refine jg_adr _ rfl _ rfl rfl (op_move (.base rfl)) ?_
    refine jg_adr _ rfl _ rfl rfl (op_move (.base rfl)) ?_
    refine jg_adr _ rfl _ rfl rfl (op_lss (.base rfl) (.base rfl)) ?_
    refine jg_nil ?_
    refine jn_keep [0, 3, 4, 13] [] (.cons rfl (.cons rfl (.cons rfl (.cons rfl .nil)))) .nil ?_
    refine jn_seq ?_
    refine j_cond rfl (fun h5 => ?_) (fun h5 => ?_)
    · have h5 : k < i := by simp at h5; omega
      refine j_skip (jn_seq (j_seq (j_block (j_seq ?_))))
      refine j_draw mo (by kernel_rfl) (
        AS.cons _ _ rfl (ga_adr rfl rfl rfl (op_move (.base rfl))) (
          AS.cons _ _ rfl (ga_adr rfl rfl rfl (op_move (.base rfl))) (
          AS.cons _ _ rfl (ga_adr rfl rfl rfl (op_index Try.underlying22 ty45 (.base rfl) (.base rfl) rfl (List.getElem?_eq_getElem (by first | omega | (simp; done) | (simp; omega) | (simp at hg; omega))))) (
          AS.cons _ _ rfl (ga_adr rfl rfl rfl (op_field fld45_0 ln45_0 (.base rfl))) (
          AS.cons _ _ rfl (ga_adr rfl rfl rfl (op_load ty3 (.base rfl))) (
          AS.cons _ _ rfl (ga_adr rfl rfl rfl (op_move (.base rfl))) (
          AS.cons _ _ rfl (ga_adr rfl rfl rfl (op_move (.base rfl))) (
          AS.cons _ _ rfl (ga_adr rfl rfl rfl (op_index Try.underlying22 ty45 (.base rfl) (.base rfl) rfl (List.getElem?_eq_getElem (by first | omega | (simp; done) | (simp; omega) | (simp at hg; omega))))) (
          AS.cons _ _ rfl (ga_adr rfl rfl rfl (op_field fld45_0 ln45_0 (.base rfl))) (
          AS.cons _ _ rfl (ga_adr rfl rfl rfl (op_load ty3 (.base rfl))) (
          AS.cons _ _ rfl (ga_adr rfl rfl rfl (op_eql (.base rfl) (.base rfl))) (
          AS.nil)))))))))))) ?_
      refine jn_keep [0, 3, 4, 26] [] (.cons rfl (.cons rfl (.cons rfl (.cons rfl .nil)))) .nil ?_
      refine jn_seq ?_
      refine j_cond rfl (fun h7 => ?_) (fun h7 => ?_)
      · have h7 : l[i].1 = (l[k]'(by omega)).1 := by simpa using h7
        have hdd : dupB l (k + 1) l[i].1 = true := by rw [dup_succ (l := l) (k := k) (by omega)]; simp [h7]
        refine j_seq ?_
        refine j_region ?_
        refine jg_adr _ rfl _ rfl rfl (op_assign (.base rfl)) ?_
        refine jg_nil ?_
        refine jn_keep [2] [] (.cons rfl .nil) .nil ?_
        refine jn_seq (j_ret (jr_blk (jr_seq (jr_loop (jr_blk (jr_blk (jr_seq (jr_loop (jr_blk (jr_seq ?_))))))))))
        exact jr_fin1 Try.results18 (res_tmp rfl) rfl (rb (by cases e : distF l l.length; rfl; have e2 := dist_mono e (show i + 1 ≤ l.length by omega); rw [dist_succ, getF h2, dup_mono hdd (show k + 1 ≤ i by omega)] at e2; simp at e2))
      · have h7 : l[i].1 ≠ (l[k]'(by omega)).1 := by simpa using h7
        refine j_skip (jn_blk (jn_seq ?_))
        refine j_region ?_
        refine jg_adr _ rfl _ rfl rfl (op_move (.base rfl)) ?_
        refine jg_adr _ rfl _ rfl rfl (op_add (.base rfl) (.base rfl) (w64 (by omega))) ?_
        refine jg_adr _ rfl _ rfl rfl (op_assign (.base rfl)) ?_
        refine jg_nil ?_
        refine jn_keep [0, 3, 4] [] (.cons rfl (.cons rfl (.cons rfl .nil))) .nil ?_
        exact jn_loop (fun a w hi => ⟨k + 1, (by first | omega | (simp; omega)), (⟨by omega, by rw [dup_succ (by omega), hdk]; simpa using fun q => h7 q.symm⟩), Sub.inv ⟨(by repeat (first | exact SubS_nil | refine SubS_cons rfl (by first | rfl | (simp; done) | assumption) ?_)), (by repeat (first | exact SubH_nil | refine SubH_cons rfl (by first | rfl | (simp; done) | assumption) ?_))⟩ hi⟩)
    · have h5 : k = i := by simp at h5; omega
      have hdi : dupB l i l[i].1 = false := by (have := hdk; rwa [h5] at this)
      refine j_exit (je_seq (je_loop (je_blk (jn_blk (jn_seq ?_)))))
      refine j_region ?_
      refine jg_adr _ rfl _ rfl rfl (op_move (.base rfl)) ?_
      refine jg_adr _ rfl _ rfl rfl (op_add (.base rfl) (.base rfl) (w64 (by omega))) ?_
      refine jg_adr _ rfl _ rfl rfl (op_assign (.base rfl)) ?_
      refine jg_nil ?_
      refine jn_keep [0, 3] [] (.cons rfl (.cons rfl .nil)) .nil ?_
      exact jn_loop (fun a w hi => ⟨i + 1, (by first | omega | (simp; omega)), (⟨by omega, by rw [dist_succ, hd, getF h2, hdi]; rfl⟩), Sub.inv ⟨(by repeat (first | exact SubS_nil | refine SubS_cons rfl (by first | rfl | (simp; done) | assumption) ?_)), (by repeat (first | exact SubH_nil | refine SubH_cons rfl (by first | rfl | (simp; done) | assumption) ?_))⟩ hi⟩)
  · have h2 : l.length ≤ i := by simp at h2; omega
    refine j_exit (je_seq (je_loop (je_blk (jn_seq (j_seq ?_)))))
    refine j_region ?_
    refine jg_adr _ rfl _ rfl rfl (op_assign (.base rfl)) ?_
    refine jg_nil ?_
    refine jn_keep [2] [] (.cons rfl .nil) .nil ?_
    refine jn_seq (j_ret ?_)
    exact jr_fin1 Try.results18 (res_tmp rfl) rfl (rb (by rw [show l.length = i from by omega, hd]))

theorem row_app {α : Type} (o : List α) (d : α) : List.take (o.length + [d].length) (List.take o.length (List.drop 0 o) ++ [d]) = o ++ [d] := by
  rw [List.drop_zero, List.take_length, List.take_of_length_le (by simp)]
theorem row_app2 {α : Type} (o : List α) (d x : α) : List.take (o.length + [d].length) (List.drop 0 (List.take o.length (List.drop 0 o) ++ [d])) ++ [x] = o ++ [d, x] := by
  rw [show ∀ l : List α, List.drop 0 l = l from fun l => List.drop_zero, row_app]; simp
def insF (d : Int) : List Int → List Int
  | [] => [d]
  | x :: l => if d ≤ x then (if d < x then d :: x :: l else x :: l) else x :: insF d l
theorem insF_len (d : Int) : ∀ l, (insF d l).length ≤ l.length + 1
  | [] => by simp [insF]
  | x :: l => by have := insF_len d l; unfold insF; split; split <;> simp; simp; omega
theorem insF_mem (d : Int) : ∀ l x, x ∈ insF d l ↔ x ∈ l ∨ x = d
  | [], x => by simp [insF]
  | y :: l, x => by
    have := insF_mem d l x
    unfold insF
    split
    · split
      · simp only [List.mem_cons]; exact ⟨fun h => by rcases h with h | h | h <;> simp [h], fun h => by rcases h with (h | h) | h <;> simp [h]⟩
      · have : d = y := by omega
        subst this; simp only [List.mem_cons]; exact ⟨fun h => by rcases h with h | h <;> simp [h], fun h => by rcases h with (h | h) | h <;> simp [h]⟩
    · simp only [List.mem_cons, this]; exact ⟨fun h => by rcases h with h | h | h <;> simp [h], fun h => by rcases h with (h | h) | h <;> simp [h]⟩
theorem insF_sorted (d : Int) : ∀ l, l.Pairwise (· < ·) → (insF d l).Pairwise (· < ·)
  | [], _ => by simp [insF]
  | y :: l, h => by
    rw [List.pairwise_cons] at h
    unfold insF
    split
    · split
      · rename_i h1 h2
        exact List.pairwise_cons.2 ⟨fun x hx => by rcases List.mem_cons.1 hx with rfl | hx; exact h2; exact Int.lt_trans h2 (h.1 x hx), List.pairwise_cons.2 h⟩
      · exact List.pairwise_cons.2 h
    · refine List.pairwise_cons.2 ⟨fun x hx => ?_, insF_sorted d l h.2⟩
      rcases (insF_mem d l x).1 hx with hx | rfl
      · exact h.1 x hx
      · omega
theorem insF_uniqS (d : Int) (l : List Int) : insF d (uniqS l) = uniqS (l ++ [d]) := by
  obtain ⟨h1, h2⟩ := uniqS_ok l
  refine (uniqS_eq (insF_sorted d _ h1) fun x => ?_).symm
  rw [insF_mem, h2]; simp

theorem rinsert_ok (l : List Int) (d : Int) (hlm : l.length ≤ 1000000) : Ct Try.prog 31 [.tv (rSlice (rInt .i64)) l, .raw (.int .i64 d)] (.tv (rSlice (rInt .i64)) (insF d l)) := by
  refine ct_intro Try.func31 rfl rfl Try.ntmps31 rfl rfl ?_
  intro w0 ok0
  refine j_seq ?_
  refine j_region ?_
  refine jg_adr _ rfl _ rfl rfl (op_assign (.base rfl)) ?_
  refine jg_nil ?_
  refine jn_keep [0, 1] [] (.cons rfl (.cons rfl .nil)) .nil ?_
  refine jn_seq (j_seq ?_)
  refine j_region ?_
  refine jg_os _ rfl (op_obslice (rt := rInt .i64) (ds := []) Try.underlying37 ty3 z3 rfl .nil rfl rfl rfl rfl rfl) ?_
  refine jg_adr _ rfl _ rfl rfl (op_assign (.base rfl)) ?_
  refine jg_nil ?_
  refine jn_keep [0, 1, 5] [8] (.cons rfl (.cons rfl (.cons rfl .nil))) (.cons rfl .nil) ?_
  refine jn_seq (j_seq ?_)
  refine j_region ?_
  refine jg_adr _ rfl _ rfl rfl (op_assign (.base rfl)) ?_
  refine jg_nil ?_
  refine jn_keep [0, 1, 5, 6] [8] (.cons rfl (.cons rfl (.cons rfl (.cons rfl .nil)))) (.cons rfl .nil) ?_
  refine jn_seq (j_seq (j_seq ?_))
  refine j_region ?_
  refine jg_adr _ rfl _ rfl rfl (op_assign (.base rfl)) ?_
  refine jg_nil ?_
  refine jn_keep [0, 1, 5, 6, 7] [8] (.cons rfl (.cons rfl (.cons rfl (.cons rfl (.cons rfl .nil))))) (.cons rfl .nil) ?_
  refine jn_seq (j_block ?_)
  refine j_loopp (ι := (Nat × List Int × Bool)) (fun (k, o, dn) => ⟨[(0, .tv (rSlice (rInt .i64)) l), (1, .raw (.int .i64 (d))), (5, .own 8 (rInt .i64).n 0 o.length), (6, .raw (.bool dn)), (7, .raw (.int .i64 ((k : Nat))))], [(8, ⟨rInt .i64, o⟩)]⟩) (fun (k, o, dn) => k ≤ l.length ∧ (dn = false → o.length ≤ k) ∧ o.length ≤ k + 1 ∧ o ++ (if dn then l.drop k else insF d (l.drop k)) = insF d l) (fun (k, o, dn) => l.length - k) (0, [], false) (⟨Nat.zero_le _, fun _ => Nat.zero_le _, Nat.zero_le _, rfl⟩) (fun a w hi => (Sub.inv ⟨(by repeat (first | exact SubS_nil | refine SubS_cons rfl (by first | rfl | (simp; done) | assumption) ?_)), (by repeat (first | exact SubH_nil | refine SubH_cons rfl (by first | rfl | (simp; done) | assumption) ?_))⟩ hi)) ?_
  rintro ⟨k, o, dn⟩ ⟨hk, ho1, ho2, ho⟩
  refine j_seq (j_seq ?_)
  refine j_region ?_
  refine jg_adr _ rfl _ rfl rfl (op_move (.base rfl)) ?_
  refine jg_adr _ rfl _ rfl rfl (op_move (.base rfl)) ?_
  refine jg_adr _ rfl _ rfl rfl (op_len Try.underlying37 (.base rfl)) ?_
  refine jg_adr _ rfl _ rfl rfl (op_lss (.base rfl) (.base rfl)) ?_
  refine jg_nil ?_
  refine jn_keep [0, 1, 5, 6, 7, 12] [8] (.cons rfl (.cons rfl (.cons rfl (.cons rfl (.cons rfl (.cons rfl .nil)))))) (.cons rfl .nil) ?_
  refine jn_seq ?_
  refine j_cond rfl (fun h4 => ?_) (fun h4 => ?_)
  · have h4 : k < l.length := by simp at h4; omega
    have hd := List.drop_eq_getElem_cons h4
    refine j_skip (jn_seq (j_seq (j_block (j_seq (j_seq ?_)))))
    refine j_region ?_
    refine jg_adr _ rfl _ rfl rfl (op_move (.base rfl)) ?_
    refine jg_adr _ rfl _ rfl rfl (op_not (.base rfl)) ?_
    refine jg_adr _ rfl _ rfl rfl (op_move (.base rfl)) ?_
    refine jg_gd _ _ _ _ _ _ rfl rfl rfl rfl rfl (fun hg => op_move (.base rfl)) ?_
    refine jg_gd _ _ _ _ _ _ rfl rfl rfl rfl rfl (fun hg => op_move (.base rfl)) ?_
    refine jg_gd _ _ _ _ _ _ rfl rfl rfl rfl rfl (fun hg => op_index Try.underlying37 ty3 (.gd rfl hg) (.gd rfl hg) rfl (getD_some (z := (0 : Int)) (by first | omega | (simp; done) | (simp; omega) | (simp at hg; omega) | (simp at hg; simp; omega)))) ?_
    refine jg_gd _ _ _ _ _ _ rfl rfl rfl rfl rfl (fun hg => op_load ty3 (.gd rfl hg)) ?_
    refine jg_gd _ _ _ _ _ _ rfl rfl rfl rfl rfl (fun hg => op_move (.base rfl)) ?_
    refine jg_gd _ _ _ _ _ _ rfl rfl rfl rfl rfl (fun hg => op_geq (.gd rfl hg) (.gd rfl hg)) ?_
    refine jg_adr _ rfl _ rfl rfl (op_pick_and (.base rfl) (.base rfl) rfl (by intro h; first | (rw [h]; rfl) | (rw [hg, h]; rfl) | (rw [h, hg]; rfl) | simp_all)) ?_
    refine jg_nil ?_
    refine jn_keep [0, 1, 5, 6, 7, 24] [8] (.cons rfl (.cons rfl (.cons rfl (.cons rfl (.cons rfl (.cons rfl .nil)))))) (.cons rfl .nil) ?_
    refine jn_seq ?_
    refine j_cond rfl (fun h6 => ?_) (fun h6 => ?_)
    · have h6 : dn = false ∧ d ≤ l[k] := by simp [List.getElem?_eq_getElem h4] at h6; exact h6
      refine j_seq ?_
      refine j_region ?_
      refine jg_adr _ rfl _ rfl rfl (op_assign (.base rfl)) ?_
      refine jg_nil ?_
      refine jn_keep [0, 1, 5, 6, 7] [8] (.cons rfl (.cons rfl (.cons rfl (.cons rfl (.cons rfl .nil))))) (.cons rfl .nil) ?_
      refine jn_seq (j_seq ?_)
      refine j_region ?_
      refine jg_adr _ rfl _ rfl rfl (op_move (.base rfl)) ?_
      refine jg_adr _ rfl _ rfl rfl (op_move (.base rfl)) ?_
      refine jg_adr _ rfl _ rfl rfl (op_index Try.underlying37 ty3 (.base rfl) (.base rfl) rfl (List.getElem?_eq_getElem (by first | omega | (simp; done) | (simp; omega) | (simp at hg; omega)))) ?_
      refine jg_adr _ rfl _ rfl rfl (op_load ty3 (.base rfl)) ?_
      refine jg_adr _ rfl _ rfl rfl (op_move (.base rfl)) ?_
      refine jg_adr _ rfl _ rfl rfl (op_gtr (.base rfl) (.base rfl)) ?_
      refine jg_nil ?_
      refine jn_keep [0, 1, 5, 6, 7, 30] [8] (.cons rfl (.cons rfl (.cons rfl (.cons rfl (.cons rfl (.cons rfl .nil)))))) (.cons rfl .nil) ?_
      refine jn_seq ?_
      refine j_cond rfl (fun h8 => ?_) (fun h8 => ?_)
      · have h8a : d < l[k] := by simpa using h8
        refine j_region ?_
        refine jg_adr _ rfl _ rfl rfl (op_move (.base rfl)) ?_
        refine jg_adr _ rfl _ rfl rfl (op_move (.base rfl)) ?_
        refine jg_adr _ rfl _ rfl rfl (op_bslice (rt := (rInt .i64)) Try.underlying37 ty3 z3 rfl (.cons (.raw (.base rfl) rfl) .nil) rfl rfl) ?_
        refine jg_os _ rfl (op_append [0, 1, 6, 7] Try.underlying37 ty3 z3 rfl by3 (.base rfl) rfl (by (try simp); try omega) (.tv (.base rfl)) (by unfold maxLen; (try simp); try omega) (by (try simp); try omega) rfl (.cons rfl (.cons rfl (.cons rfl (.cons rfl .nil)))) rfl) ?_
        refine jg_adr _ rfl _ rfl rfl (op_assign (.base rfl)) ?_
        refine jg_nil ?_
        refine jn_keep [0, 1, 5, 6, 7] [8] (.cons rfl (.cons rfl (.cons rfl (.cons rfl (.cons rfl .nil))))) (.cons rfl .nil) ?_
        refine jn_seq ?_
        refine j_region ?_
        refine jg_adr _ rfl _ rfl rfl (op_move (.base rfl)) ?_
        refine jg_adr _ rfl _ rfl rfl (op_move (.base rfl)) ?_
        refine jg_adr _ rfl _ rfl rfl (op_move (.base rfl)) ?_
        refine jg_adr _ rfl _ rfl rfl (op_index Try.underlying37 ty3 (.base rfl) (.base rfl) rfl (List.getElem?_eq_getElem (by first | omega | (simp; done) | (simp; omega) | (simp at hg; omega)))) ?_
        refine jg_adr _ rfl _ rfl rfl (op_load ty3 (.base rfl)) ?_
        refine jg_adr _ rfl _ rfl rfl (op_bslice (rt := (rInt .i64)) Try.underlying37 ty3 z3 rfl (.cons (.raw (.base rfl) rfl) .nil) rfl rfl) ?_
        refine jg_os _ rfl (op_append [0, 1, 6, 7] Try.underlying37 ty3 z3 rfl by3 (.base rfl) rfl (by (try simp); try omega) (.tv (.base rfl)) (by unfold maxLen; (try simp); try omega) (by (try simp); try omega) rfl (.cons rfl (.cons rfl (.cons rfl (.cons rfl .nil)))) rfl) ?_
        refine jg_adr _ rfl _ rfl rfl (op_assign (.base rfl)) ?_
        refine jg_nil ?_
        refine jn_keep [0, 1, 5, 6, 7] [8] (.cons rfl (.cons rfl (.cons rfl (.cons rfl (.cons rfl .nil))))) (.cons rfl .nil) ?_
        refine jn_blk (jn_seq ?_)
        refine j_region ?_
        refine jg_adr _ rfl _ rfl rfl (op_move (.base rfl)) ?_
        refine jg_adr _ rfl _ rfl rfl (op_add (.base rfl) (.base rfl) (w64 (by omega))) ?_
        refine jg_adr _ rfl _ rfl rfl (op_assign (.base rfl)) ?_
        refine jg_nil ?_
        refine jn_keep [0, 1, 5, 6, 7] [8] (.cons rfl (.cons rfl (.cons rfl (.cons rfl (.cons rfl .nil))))) (.cons rfl .nil) ?_
        first
        | (have _h := h8a; exact jn_loop (fun a w hi => ⟨(k + 1, o ++ [d, l[k]], true), (by first | omega | (simp; omega)), (⟨by omega, by simp, by have := ho1 h6.1; simp; omega, by rw [← ho, h6.1, hd]; unfold insF; rw [if_pos h6.2, if_pos h8a]; simp⟩), Sub.inv ⟨(by repeat (first | exact SubS_nil | refine SubS_cons rfl (by first | rfl | (simp; done) | assumption | exact congrArg (SV.own 8 (rInt .i64).n 0) (by simp)) ?_)), (by repeat (first | exact SubH_nil | refine SubH_cons rfl (by first | rfl | (simp; done) | assumption | exact congrArg (HB.mk (rInt .i64)) (row_app2 o d _) | (refine congrArg (HB.mk (rInt .i64)) ?_; try (simp only [List.drop_zero, List.take_of_length_le (Nat.le_refl _), List.append_assoc]); first | done | exact row_app2 o d _ | rfl | (simp; done))) ?_))⟩ hi⟩))
        | (have _h := h8b; exact jn_loop (fun a w hi => ⟨(k + 1, o ++ [l[k]], true), (by first | omega | (simp; omega)), (⟨by omega, by simp, by have := ho1 h6.1; simp; omega, by rw [← ho, h6.1, hd]; unfold insF; rw [if_pos h6.2, if_neg h8b]; simp⟩), Sub.inv ⟨(by repeat (first | exact SubS_nil | refine SubS_cons rfl (by first | rfl | (simp; done) | assumption | exact congrArg (SV.own 8 (rInt .i64).n 0) (by simp)) ?_)), (by repeat (first | exact SubH_nil | refine SubH_cons rfl (by first | rfl | (simp; done) | assumption | exact congrArg (HB.mk (rInt .i64)) (row_app2 o d _) | (refine congrArg (HB.mk (rInt .i64)) ?_; try (simp only [List.drop_zero, List.take_of_length_le (Nat.le_refl _), List.append_assoc]); first | done | exact row_app2 o d _ | rfl | (simp; done))) ?_))⟩ hi⟩))
        | (exact jn_loop (fun a w hi => ⟨(k + 1, o ++ [l[k]], dn), (by first | omega | (simp; omega)), (⟨by omega, fun q => by have := ho1 q; simp; omega, by simp; omega, h6c⟩), Sub.inv ⟨(by repeat (first | exact SubS_nil | refine SubS_cons rfl (by first | rfl | (simp; done) | assumption | exact congrArg (SV.own 8 (rInt .i64).n 0) (by simp)) ?_)), (by repeat (first | exact SubH_nil | refine SubH_cons rfl (by first | rfl | (simp; done) | assumption | exact congrArg (HB.mk (rInt .i64)) (row_app2 o d _) | (refine congrArg (HB.mk (rInt .i64)) ?_; try (simp only [List.drop_zero, List.take_of_length_le (Nat.le_refl _), List.append_assoc]); first | done | exact row_app2 o d _ | rfl | (simp; done))) ?_))⟩ hi⟩))
      · have h8b : ¬ d < l[k] := by simpa using h8
        refine j_skip (jn_seq ?_)
        refine j_region ?_
        refine jg_adr _ rfl _ rfl rfl (op_move (.base rfl)) ?_
        refine jg_adr _ rfl _ rfl rfl (op_move (.base rfl)) ?_
        refine jg_adr _ rfl _ rfl rfl (op_move (.base rfl)) ?_
        refine jg_adr _ rfl _ rfl rfl (op_index Try.underlying37 ty3 (.base rfl) (.base rfl) rfl (List.getElem?_eq_getElem (by first | omega | (simp; done) | (simp; omega) | (simp at hg; omega)))) ?_
        refine jg_adr _ rfl _ rfl rfl (op_load ty3 (.base rfl)) ?_
        refine jg_adr _ rfl _ rfl rfl (op_bslice (rt := (rInt .i64)) Try.underlying37 ty3 z3 rfl (.cons (.raw (.base rfl) rfl) .nil) rfl rfl) ?_
        refine jg_os _ rfl (op_append [0, 1, 6, 7] Try.underlying37 ty3 z3 rfl by3 (.base rfl) rfl (by (try simp); try omega) (.tv (.base rfl)) (by unfold maxLen; (try simp); try omega) (by (try simp); try omega) rfl (.cons rfl (.cons rfl (.cons rfl (.cons rfl .nil)))) rfl) ?_
        refine jg_adr _ rfl _ rfl rfl (op_assign (.base rfl)) ?_
        refine jg_nil ?_
        refine jn_keep [0, 1, 5, 6, 7] [8] (.cons rfl (.cons rfl (.cons rfl (.cons rfl (.cons rfl .nil))))) (.cons rfl .nil) ?_
        refine jn_blk (jn_seq ?_)
        refine j_region ?_
        refine jg_adr _ rfl _ rfl rfl (op_move (.base rfl)) ?_
        refine jg_adr _ rfl _ rfl rfl (op_add (.base rfl) (.base rfl) (w64 (by omega))) ?_
        refine jg_adr _ rfl _ rfl rfl (op_assign (.base rfl)) ?_
        refine jg_nil ?_
        refine jn_keep [0, 1, 5, 6, 7] [8] (.cons rfl (.cons rfl (.cons rfl (.cons rfl (.cons rfl .nil))))) (.cons rfl .nil) ?_
        first
        | (have _h := h8a; exact jn_loop (fun a w hi => ⟨(k + 1, o ++ [d, l[k]], true), (by first | omega | (simp; omega)), (⟨by omega, by simp, by have := ho1 h6.1; simp; omega, by rw [← ho, h6.1, hd]; unfold insF; rw [if_pos h6.2, if_pos h8a]; simp⟩), Sub.inv ⟨(by repeat (first | exact SubS_nil | refine SubS_cons rfl (by first | rfl | (simp; done) | assumption | exact congrArg (SV.own 8 (rInt .i64).n 0) (by simp)) ?_)), (by repeat (first | exact SubH_nil | refine SubH_cons rfl (by first | rfl | (simp; done) | assumption | exact congrArg (HB.mk (rInt .i64)) (row_app2 o d _) | (refine congrArg (HB.mk (rInt .i64)) ?_; try (simp only [List.drop_zero, List.take_of_length_le (Nat.le_refl _), List.append_assoc]); first | done | exact row_app2 o d _ | rfl | (simp; done))) ?_))⟩ hi⟩))
        | (have _h := h8b; exact jn_loop (fun a w hi => ⟨(k + 1, o ++ [l[k]], true), (by first | omega | (simp; omega)), (⟨by omega, by simp, by have := ho1 h6.1; simp; omega, by rw [← ho, h6.1, hd]; unfold insF; rw [if_pos h6.2, if_neg h8b]; simp⟩), Sub.inv ⟨(by repeat (first | exact SubS_nil | refine SubS_cons rfl (by first | rfl | (simp; done) | assumption | exact congrArg (SV.own 8 (rInt .i64).n 0) (by simp)) ?_)), (by repeat (first | exact SubH_nil | refine SubH_cons rfl (by first | rfl | (simp; done) | assumption | exact congrArg (HB.mk (rInt .i64)) (row_app2 o d _) | (refine congrArg (HB.mk (rInt .i64)) ?_; try (simp only [List.drop_zero, List.take_of_length_le (Nat.le_refl _), List.append_assoc]); first | done | exact row_app2 o d _ | rfl | (simp; done))) ?_))⟩ hi⟩))
        | (exact jn_loop (fun a w hi => ⟨(k + 1, o ++ [l[k]], dn), (by first | omega | (simp; omega)), (⟨by omega, fun q => by have := ho1 q; simp; omega, by simp; omega, h6c⟩), Sub.inv ⟨(by repeat (first | exact SubS_nil | refine SubS_cons rfl (by first | rfl | (simp; done) | assumption | exact congrArg (SV.own 8 (rInt .i64).n 0) (by simp)) ?_)), (by repeat (first | exact SubH_nil | refine SubH_cons rfl (by first | rfl | (simp; done) | assumption | exact congrArg (HB.mk (rInt .i64)) (row_app2 o d _) | (refine congrArg (HB.mk (rInt .i64)) ?_; try (simp only [List.drop_zero, List.take_of_length_le (Nat.le_refl _), List.append_assoc]); first | done | exact row_app2 o d _ | rfl | (simp; done))) ?_))⟩ hi⟩))
    · have h6c : o ++ [l[k]] ++ (if dn then l.drop (k + 1) else insF d (l.drop (k + 1))) = insF d l := by
        rw [← ho, hd]
        cases dn
        · have h6 : ¬ d ≤ l[k] := by simp [List.getElem?_eq_getElem h4] at h6; omega
          simp [insF, h6]
        · simp
      refine j_skip (jn_seq ?_)
      refine j_region ?_
      refine jg_adr _ rfl _ rfl rfl (op_move (.base rfl)) ?_
      refine jg_adr _ rfl _ rfl rfl (op_move (.base rfl)) ?_
      refine jg_adr _ rfl _ rfl rfl (op_move (.base rfl)) ?_
      refine jg_adr _ rfl _ rfl rfl (op_index Try.underlying37 ty3 (.base rfl) (.base rfl) rfl (List.getElem?_eq_getElem (by first | omega | (simp; done) | (simp; omega) | (simp at hg; omega)))) ?_
      refine jg_adr _ rfl _ rfl rfl (op_load ty3 (.base rfl)) ?_
      refine jg_adr _ rfl _ rfl rfl (op_bslice (rt := (rInt .i64)) Try.underlying37 ty3 z3 rfl (.cons (.raw (.base rfl) rfl) .nil) rfl rfl) ?_
      refine jg_os _ rfl (op_append [0, 1, 6, 7] Try.underlying37 ty3 z3 rfl by3 (.base rfl) rfl (by (try simp); try omega) (.tv (.base rfl)) (by unfold maxLen; (try simp); try omega) (by (try simp); try omega) rfl (.cons rfl (.cons rfl (.cons rfl (.cons rfl .nil)))) rfl) ?_
      refine jg_adr _ rfl _ rfl rfl (op_assign (.base rfl)) ?_
      refine jg_nil ?_
      refine jn_keep [0, 1, 5, 6, 7] [8] (.cons rfl (.cons rfl (.cons rfl (.cons rfl (.cons rfl .nil))))) (.cons rfl .nil) ?_
      refine jn_blk (jn_seq ?_)
      refine j_region ?_
      refine jg_adr _ rfl _ rfl rfl (op_move (.base rfl)) ?_
      refine jg_adr _ rfl _ rfl rfl (op_add (.base rfl) (.base rfl) (w64 (by omega))) ?_
      refine jg_adr _ rfl _ rfl rfl (op_assign (.base rfl)) ?_
      refine jg_nil ?_
      refine jn_keep [0, 1, 5, 6, 7] [8] (.cons rfl (.cons rfl (.cons rfl (.cons rfl (.cons rfl .nil))))) (.cons rfl .nil) ?_
      first
      | (have _h := h8a; exact jn_loop (fun a w hi => ⟨(k + 1, o ++ [d, l[k]], true), (by first | omega | (simp; omega)), (⟨by omega, by simp, by have := ho1 h6.1; simp; omega, by rw [← ho, h6.1, hd]; unfold insF; rw [if_pos h6.2, if_pos h8a]; simp⟩), Sub.inv ⟨(by repeat (first | exact SubS_nil | refine SubS_cons rfl (by first | rfl | (simp; done) | assumption | exact congrArg (SV.own 8 (rInt .i64).n 0) (by simp)) ?_)), (by repeat (first | exact SubH_nil | refine SubH_cons rfl (by first | rfl | (simp; done) | assumption | exact congrArg (HB.mk (rInt .i64)) (row_app2 o d _) | (refine congrArg (HB.mk (rInt .i64)) ?_; try (simp only [List.drop_zero, List.take_of_length_le (Nat.le_refl _), List.append_assoc]); first | done | exact row_app2 o d _ | rfl | (simp; done))) ?_))⟩ hi⟩))
      | (have _h := h8b; exact jn_loop (fun a w hi => ⟨(k + 1, o ++ [l[k]], true), (by first | omega | (simp; omega)), (⟨by omega, by simp, by have := ho1 h6.1; simp; omega, by rw [← ho, h6.1, hd]; unfold insF; rw [if_pos h6.2, if_neg h8b]; simp⟩), Sub.inv ⟨(by repeat (first | exact SubS_nil | refine SubS_cons rfl (by first | rfl | (simp; done) | assumption | exact congrArg (SV.own 8 (rInt .i64).n 0) (by simp)) ?_)), (by repeat (first | exact SubH_nil | refine SubH_cons rfl (by first | rfl | (simp; done) | assumption | exact congrArg (HB.mk (rInt .i64)) (row_app2 o d _) | (refine congrArg (HB.mk (rInt .i64)) ?_; try (simp only [List.drop_zero, List.take_of_length_le (Nat.le_refl _), List.append_assoc]); first | done | exact row_app2 o d _ | rfl | (simp; done))) ?_))⟩ hi⟩))
      | (exact jn_loop (fun a w hi => ⟨(k + 1, o ++ [l[k]], dn), (by first | omega | (simp; omega)), (⟨by omega, fun q => by have := ho1 q; simp; omega, by simp; omega, h6c⟩), Sub.inv ⟨(by repeat (first | exact SubS_nil | refine SubS_cons rfl (by first | rfl | (simp; done) | assumption | exact congrArg (SV.own 8 (rInt .i64).n 0) (by simp)) ?_)), (by repeat (first | exact SubH_nil | refine SubH_cons rfl (by first | rfl | (simp; done) | assumption | exact congrArg (HB.mk (rInt .i64)) (row_app2 o d _) | (refine congrArg (HB.mk (rInt .i64)) ?_; try (simp only [List.drop_zero, List.take_of_length_le (Nat.le_refl _), List.append_assoc]); first | done | exact row_app2 o d _ | rfl | (simp; done))) ?_))⟩ hi⟩))
  · have h4 : l.length ≤ k := by simp at h4; omega
    rw [List.drop_of_length_le h4] at ho
    refine j_exit (je_seq (je_loop (je_blk (jn_seq (j_seq (j_seq ?_))))))
    refine j_region ?_
    refine jg_adr _ rfl _ rfl rfl (op_move (.base rfl)) ?_
    refine jg_adr _ rfl _ rfl rfl (op_not (.base rfl)) ?_
    refine jg_nil ?_
    refine jn_keep [1, 5, 43] [8] (.cons rfl (.cons rfl (.cons rfl .nil))) (.cons rfl .nil) ?_
    refine jn_seq ?_
    refine j_cond rfl (fun h11 => ?_) (fun h11 => ?_)
    · have h11 : dn = false := by simpa using h11
      subst h11
      have hoo : o ++ [d] = insF d l := ho
      refine j_region ?_
      refine jg_adr _ rfl _ rfl rfl (op_move (.base rfl)) ?_
      refine jg_adr _ rfl _ rfl rfl (op_move (.base rfl)) ?_
      refine jg_adr _ rfl _ rfl rfl (op_bslice (rt := (rInt .i64)) Try.underlying37 ty3 z3 rfl (.cons (.raw (.base rfl) rfl) .nil) rfl rfl) ?_
      refine jg_os _ rfl (op_append [] Try.underlying37 ty3 z3 rfl by3 (.base rfl) rfl (by (try simp); try omega) (.tv (.base rfl)) (by unfold maxLen; (try simp); try omega) (by (try simp); try omega) rfl .nil rfl) ?_
      refine jg_adr _ rfl _ rfl rfl (op_assign (.base rfl)) ?_
      refine jg_nil ?_
      refine jn_keep [5] [8] (.cons rfl .nil) (.cons rfl .nil) ?_
      refine jn_seq (j_seq ?_)
      refine j_region ?_
      refine jg_adr _ rfl _ rfl rfl (op_move (.base rfl)) ?_
      refine jg_adr _ rfl _ rfl rfl (op_assign (.base rfl)) ?_
      refine jg_nil ?_
      refine jn_keep [4] [8] (.cons rfl .nil) (.cons rfl .nil) ?_
      refine jn_seq (j_ret ?_)
      refine jr_seal (rt := rInt .i64) 8 4 (dropH 8 _) rfl rfl (by simp) (dropH_sub 8 _) (dropH_no 8 _) ?_
      exact jr_fin1 Try.results31 (res_tmp rfl) rfl (congrArg (SV.tv (rSlice (rInt .i64))) (by first | (rw [List.drop_zero, row_app]; exact hoo) | (rw [List.drop_zero, ← hoo]; simp; done) | (rw [List.drop_zero, List.take_of_length_le (Nat.le_refl _), hoo])))
    · have h11 : dn = true := by simpa using h11
      subst h11
      have hoo : o = insF d l := by simpa using ho
      refine j_skip (jn_seq (j_seq ?_))
      refine j_region ?_
      refine jg_adr _ rfl _ rfl rfl (op_move (.base rfl)) ?_
      refine jg_adr _ rfl _ rfl rfl (op_assign (.base rfl)) ?_
      refine jg_nil ?_
      refine jn_keep [4] [8] (.cons rfl .nil) (.cons rfl .nil) ?_
      refine jn_seq (j_ret ?_)
      refine jr_seal (rt := rInt .i64) 8 4 (dropH 8 _) rfl rfl (by simp) (dropH_sub 8 _) (dropH_no 8 _) ?_
      exact jr_fin1 Try.results31 (res_tmp rfl) rfl (congrArg (SV.tv (rSlice (rInt .i64))) (by first | (rw [List.drop_zero, row_app]; exact hoo) | (rw [List.drop_zero, ← hoo]; simp; done) | (rw [List.drop_zero, List.take_of_length_le (Nat.le_refl _), hoo])))

/-- the dates at which a fact starts or ends -/
def ptsF (r : Int) (f : TFact) : List Int := if f.2.2.2.2.2 ≤ r ∧ hasD f.2.2.2.2.1 = true then (if 1 ≤ f.2.2.2.2.1.1 then [f.2.2.2.2.1.1] else []) ++ (if f.2.2.2.2.1.2 ≤ 109572 then [f.2.2.2.2.1.2] else []) else []
def ptsL (r : Int) (l : List TFact) : List Int := l.flatMap (ptsF r)
theorem pts_succ {r : Int} {l : List TFact} {k : Nat} (h : k < l.length) : ptsL r (l.take (k + 1)) = ptsL r (l.take k) ++ ptsF r l[k] := by unfold ptsL; rw [List.take_succ_eq_append_getElem h, List.flatMap_append]; simp
theorem pts_len (r : Int) : ∀ l : List TFact, (ptsL r l).length ≤ 2 * l.length
  | [] => by simp [ptsL]
  | f :: l => by
    have := pts_len r l
    unfold ptsL at *
    rw [List.flatMap_cons, List.length_append, List.length_cons]
    have : (ptsF r f).length ≤ 2 := by unfold ptsF; split; (split <;> split <;> simp); simp
    omega
def chgF (r : Int) (l : List TFact) : List Int := uniqS (ptsL r l)

theorem rchange_ok (l : List TFact) (r : Int) (hlm : l.length ≤ 100000) : Ct Try.prog 17 [.tv (rSlice rFact) l, .raw (.int .i64 r)] (.tv (rSlice (rInt .i64)) (chgF r l)) := by
  refine ct_intro Try.func17 rfl rfl Try.ntmps17 rfl rfl ?_
  intro w0 ok0
  refine j_len 0 rfl (fun hl0 => ?_)
  refine j_seq ?_
  refine j_region ?_
  refine jg_adr _ rfl _ rfl rfl (op_assign (.base rfl)) ?_
  refine jg_nil ?_
  refine jn_keep [0, 1] [] (.cons rfl (.cons rfl .nil)) .nil ?_
  refine jn_seq (j_seq ?_)
  refine j_region ?_
  refine jg_adr _ rfl _ rfl rfl (op_bslice (rt := (rInt .i64)) Try.underlying37 ty3 z3 rfl .nil rfl rfl) ?_
  refine jg_adr _ rfl _ rfl rfl (op_assign (.base rfl)) ?_
  refine jg_nil ?_
  refine jn_keep [0, 1, 5] [] (.cons rfl (.cons rfl (.cons rfl .nil))) .nil ?_
  refine jn_seq (j_seq (j_seq ?_))
  refine j_region ?_
  refine jg_adr _ rfl _ rfl rfl (op_assign (.base rfl)) ?_
  refine jg_nil ?_
  refine jn_keep [0, 1, 5, 6] [] (.cons rfl (.cons rfl (.cons rfl (.cons rfl .nil)))) .nil ?_
  refine jn_seq (j_block ?_)
  refine j_loopp (ι := Nat) (fun k => ⟨[(0, .tv (rSlice rFact) l), (1, .raw (.int .i64 (r))), (5, .tv (rSlice (rInt .i64)) (chgF r (l.take k))), (6, .raw (.int .i64 ((k : Nat))))], []⟩) (fun k => k ≤ l.length) (fun k => l.length - k) 0 (Nat.zero_le _) (fun a w hi => (Sub.inv ⟨(by repeat (first | exact SubS_nil | refine SubS_cons rfl (by first | rfl | (simp; done) | assumption | (refine congrArg (SV.tv (rSlice (rInt .i64))) ?_; exact uniqS_nil.symm)) ?_)), (by repeat (first | exact SubH_nil | refine SubH_cons rfl (by first | rfl | (simp; done) | assumption) ?_))⟩ hi)) ?_
  rintro k hk
  have hpl := pts_len r (l.take k)
  have htl : (l.take k).length ≤ l.length := by simp; omega
  have hul := uniqS_len (ptsL r (l.take k))
  have hcl : (chgF r (l.take k)).length ≤ 2 * l.length := by unfold chgF; omega
  have hcl2 : ∀ x, (insF x (chgF r (l.take k))).length ≤ 2 * l.length + 1 := fun x => by have := insF_len x (chgF r (l.take k)); omega
  refine j_seq (j_seq ?_)
  refine j_region ?_
  refine jg_adr _ rfl _ rfl rfl (op_move (.base rfl)) ?_
  refine jg_adr _ rfl _ rfl rfl (op_move (.base rfl)) ?_
  refine jg_adr _ rfl _ rfl rfl (op_len Try.underlying22 (.base rfl)) ?_
  refine jg_adr _ rfl _ rfl rfl (op_lss (.base rfl) (.base rfl)) ?_
  refine jg_nil ?_
  refine jn_keep [0, 1, 5, 6, 11] [] (.cons rfl (.cons rfl (.cons rfl (.cons rfl (.cons rfl .nil))))) .nil ?_
  refine jn_seq ?_
  refine j_cond rfl (fun h3 => ?_) (fun h3 => ?_)
  · have h3 : k < l.length := by simp at h3; omega
    have hs := pts_succ (r := r) h3
    unfold ptsF at hs
    refine j_skip (jn_seq (j_seq (j_block (j_seq (j_seq ?_)))))
    refine j_region ?_
    refine jg_adr _ rfl _ rfl rfl (op_move (.base rfl)) ?_
    refine jg_adr _ rfl _ rfl rfl (op_move (.base rfl)) ?_
    refine jg_adr _ rfl _ rfl rfl (op_index Try.underlying22 ty45 (.base rfl) (.base rfl) rfl (List.getElem?_eq_getElem (by first | omega | (simp; done) | (simp; omega) | (simp at hg; omega)))) ?_
    refine jg_adr _ rfl _ rfl rfl (op_field fld45_5 ln45_5 (.base rfl)) ?_
    refine jg_adr _ rfl _ rfl rfl (op_load ty3 (.base rfl)) ?_
    refine jg_adr _ rfl _ rfl rfl (op_move (.base rfl)) ?_
    refine jg_adr _ rfl _ rfl rfl (op_gtr (.base rfl) (.base rfl)) ?_
    refine jg_adr _ rfl _ rfl rfl (op_move (.base rfl)) ?_
    refine jg_gd _ _ _ _ _ _ rfl rfl rfl rfl rfl (fun hg => op_move (.base rfl)) ?_
    refine jg_gd _ _ _ _ _ _ rfl rfl rfl rfl rfl (fun hg => op_move (.base rfl)) ?_
    refine jg_gd _ _ _ _ _ _ rfl rfl rfl rfl rfl (fun hg => op_index Try.underlying22 ty45 (.gd rfl hg) (.gd rfl hg) rfl (getD_some (z := ((0, (0, (0, ((0, (0, 0)), ((0, 0), 0))))) : TFact)) (by first | omega | (simp; done) | (simp; omega) | (simp at hg; omega) | (simp at hg; simp; omega)))) ?_
    refine jg_gd _ _ _ _ _ _ rfl rfl rfl rfl rfl (fun hg => op_field fld45_4 ln45_4 (.gd rfl hg)) ?_
    refine jg_gd _ _ _ _ _ _ rfl rfl rfl rfl rfl (fun hg => op_load ty40 (.gd rfl hg)) ?_
    refine jg_gd _ _ _ _ _ _ rfl rfl rfl rfl rfl (fun hg => op_call (rne_ok _) (.cons (.gd rfl hg) .nil) rfl rfl) ?_
    refine jg_gd _ _ _ _ _ _ rfl rfl rfl rfl rfl (fun hg => op_not (.gd rfl hg)) ?_
    refine jg_adr _ rfl _ rfl rfl (op_pick_or (.base rfl) (.base rfl) rfl (by intro h; first | (rw [h]; rfl) | (rw [hg, h]; rfl) | (rw [h, hg]; rfl) | simp_all)) ?_
    refine jg_nil ?_
    refine jn_keep [0, 1, 5, 6, 29] [] (.cons rfl (.cons rfl (.cons rfl (.cons rfl (.cons rfl .nil))))) .nil ?_
    refine jn_seq ?_
    refine j_cond rfl (fun h5 => ?_) (fun h5 => ?_)
    · have h5 : ¬ (l[k].2.2.2.2.2 ≤ r ∧ hasD l[k].2.2.2.2.1 = true) := by rintro ⟨q1, q2⟩; simp [List.getElem?_eq_getElem h3] at h5; rcases h5 with h5 | h5; omega; rw [q2] at h5; cases h5
      rw [if_neg h5, List.append_nil] at hs
      refine j_exit (je_seq (je_blk (jn_seq ?_)))
      refine j_region ?_
      refine jg_adr _ rfl _ rfl rfl (op_move (.base rfl)) ?_
      refine jg_adr _ rfl _ rfl rfl (op_add (.base rfl) (.base rfl) (w64 (by omega))) ?_
      refine jg_adr _ rfl _ rfl rfl (op_assign (.base rfl)) ?_
      refine jg_nil ?_
      refine jn_keep [0, 1, 5, 6] [] (.cons rfl (.cons rfl (.cons rfl (.cons rfl .nil)))) .nil ?_
      exact jn_loop (fun a w hi => ⟨k + 1, (by first | omega | (simp; omega)), (by omega), Sub.inv ⟨(by repeat (first | exact SubS_nil | refine SubS_cons rfl (by first | rfl | (simp; done) | assumption | (refine congrArg (SV.tv (rSlice (rInt .i64))) ?_; first | (unfold chgF; rw [hs]; done) | (unfold chgF; rw [hs]; simp [insF_uniqS]; done))) ?_)), (by repeat (first | exact SubH_nil | refine SubH_cons rfl (by first | rfl | (simp; done) | assumption) ?_))⟩ hi⟩)
    · have h5 : l[k].2.2.2.2.2 ≤ r ∧ hasD l[k].2.2.2.2.1 = true := by simp [List.getElem?_eq_getElem h3] at h5; exact h5
      rw [if_pos h5] at hs
      refine j_skip (jn_seq (j_seq (j_seq ?_)))
      refine j_region ?_
      refine jg_adr _ rfl _ rfl rfl (op_move (.base rfl)) ?_
      refine jg_adr _ rfl _ rfl rfl (op_move (.base rfl)) ?_
      refine jg_adr _ rfl _ rfl rfl (op_index Try.underlying22 ty45 (.base rfl) (.base rfl) rfl (List.getElem?_eq_getElem (by first | omega | (simp; done) | (simp; omega) | (simp at hg; omega)))) ?_
      refine jg_adr _ rfl _ rfl rfl (op_field fld45_4 ln45_4 (.base rfl)) ?_
      refine jg_adr _ rfl _ rfl rfl (op_field fld40_0 ln40_0 (.base rfl)) ?_
      refine jg_adr _ rfl _ rfl rfl (op_load ty3 (.base rfl)) ?_
      refine jg_adr _ rfl _ rfl rfl (op_geq (.base rfl) (.base rfl)) ?_
      refine jg_nil ?_
      refine jn_keep [0, 1, 5, 6, 36] [] (.cons rfl (.cons rfl (.cons rfl (.cons rfl (.cons rfl .nil))))) .nil ?_
      refine jn_seq ?_
      refine j_cond rfl (fun h6 => ?_) (fun h6 => ?_)
      · have h6 : 1 ≤ l[k].2.2.2.2.1.1 := by simpa using h6
        rw [if_pos h6] at hs
        refine j_region ?_
        refine jg_adr _ rfl _ rfl rfl (op_move (.base rfl)) ?_
        refine jg_adr _ rfl _ rfl rfl (op_move (.base rfl)) ?_
        refine jg_adr _ rfl _ rfl rfl (op_move (.base rfl)) ?_
        refine jg_adr _ rfl _ rfl rfl (op_index Try.underlying22 ty45 (.base rfl) (.base rfl) rfl (List.getElem?_eq_getElem (by first | omega | (simp; done) | (simp; omega) | (simp at hg; omega)))) ?_
        refine jg_adr _ rfl _ rfl rfl (op_field fld45_4 ln45_4 (.base rfl)) ?_
        refine jg_adr _ rfl _ rfl rfl (op_field fld40_0 ln40_0 (.base rfl)) ?_
        refine jg_adr _ rfl _ rfl rfl (op_load ty3 (.base rfl)) ?_
        refine jg_adr _ rfl _ rfl rfl (op_call (rinsert_ok _ _ (by omega)) (.cons (.base rfl) (.cons (.base rfl) .nil)) rfl rfl) ?_
        refine jg_adr _ rfl _ rfl rfl (op_assign (.base rfl)) ?_
        refine jg_nil ?_
        refine jn_keep [0, 1, 5, 6] [] (.cons rfl (.cons rfl (.cons rfl (.cons rfl .nil)))) .nil ?_
        refine jn_seq (j_seq ?_)
        refine j_region ?_
        refine jg_adr _ rfl _ rfl rfl (op_move (.base rfl)) ?_
        refine jg_adr _ rfl _ rfl rfl (op_move (.base rfl)) ?_
        refine jg_adr _ rfl _ rfl rfl (op_index Try.underlying22 ty45 (.base rfl) (.base rfl) rfl (List.getElem?_eq_getElem (by first | omega | (simp; done) | (simp; omega) | (simp at hg; omega)))) ?_
        refine jg_adr _ rfl _ rfl rfl (op_field fld45_4 ln45_4 (.base rfl)) ?_
        refine jg_adr _ rfl _ rfl rfl (op_field fld40_1 ln40_1 (.base rfl)) ?_
        refine jg_adr _ rfl _ rfl rfl (op_load ty3 (.base rfl)) ?_
        refine jg_adr _ rfl _ rfl rfl (op_leq (.base rfl) (.base rfl)) ?_
        refine jg_nil ?_
        refine jn_keep [0, 1, 5, 6, 51] [] (.cons rfl (.cons rfl (.cons rfl (.cons rfl (.cons rfl .nil))))) .nil ?_
        refine jn_seq ?_
        refine j_cond rfl (fun h8 => ?_) (fun h8 => ?_)
        · have h8 : l[k].2.2.2.2.1.2 ≤ 109572 := by simpa using h8
          rw [if_pos h8] at hs
          refine j_region ?_
          refine jg_adr _ rfl _ rfl rfl (op_move (.base rfl)) ?_
          refine jg_adr _ rfl _ rfl rfl (op_move (.base rfl)) ?_
          refine jg_adr _ rfl _ rfl rfl (op_move (.base rfl)) ?_
          refine jg_adr _ rfl _ rfl rfl (op_index Try.underlying22 ty45 (.base rfl) (.base rfl) rfl (List.getElem?_eq_getElem (by first | omega | (simp; done) | (simp; omega) | (simp at hg; omega)))) ?_
          refine jg_adr _ rfl _ rfl rfl (op_field fld45_4 ln45_4 (.base rfl)) ?_
          refine jg_adr _ rfl _ rfl rfl (op_field fld40_1 ln40_1 (.base rfl)) ?_
          refine jg_adr _ rfl _ rfl rfl (op_load ty3 (.base rfl)) ?_
          refine jg_adr _ rfl _ rfl rfl (op_call (rinsert_ok _ _ (by first | omega | (have := hcl2 (l[k].2.2.2.2.1.1); omega))) (.cons (.base rfl) (.cons (.base rfl) .nil)) rfl rfl) ?_
          refine jg_adr _ rfl _ rfl rfl (op_assign (.base rfl)) ?_
          refine jg_nil ?_
          refine jn_keep [0, 1, 5, 6] [] (.cons rfl (.cons rfl (.cons rfl (.cons rfl .nil)))) .nil ?_
          refine jn_blk (jn_seq ?_)
          refine j_region ?_
          refine jg_adr _ rfl _ rfl rfl (op_move (.base rfl)) ?_
          refine jg_adr _ rfl _ rfl rfl (op_add (.base rfl) (.base rfl) (w64 (by omega))) ?_
          refine jg_adr _ rfl _ rfl rfl (op_assign (.base rfl)) ?_
          refine jg_nil ?_
          refine jn_keep [0, 1, 5, 6] [] (.cons rfl (.cons rfl (.cons rfl (.cons rfl .nil)))) .nil ?_
          exact jn_loop (fun a w hi => ⟨k + 1, (by first | omega | (simp; omega)), (by omega), Sub.inv ⟨(by repeat (first | exact SubS_nil | refine SubS_cons rfl (by first | rfl | (simp; done) | assumption | (refine congrArg (SV.tv (rSlice (rInt .i64))) ?_; first | (unfold chgF; rw [hs]; done) | (unfold chgF; rw [hs]; simp [insF_uniqS]; done))) ?_)), (by repeat (first | exact SubH_nil | refine SubH_cons rfl (by first | rfl | (simp; done) | assumption) ?_))⟩ hi⟩)
        · have h8 : ¬ l[k].2.2.2.2.1.2 ≤ 109572 := by simpa using h8
          rw [if_neg h8] at hs
          refine j_skip (jn_blk (jn_seq ?_))
          refine j_region ?_
          refine jg_adr _ rfl _ rfl rfl (op_move (.base rfl)) ?_
          refine jg_adr _ rfl _ rfl rfl (op_add (.base rfl) (.base rfl) (w64 (by omega))) ?_
          refine jg_adr _ rfl _ rfl rfl (op_assign (.base rfl)) ?_
          refine jg_nil ?_
          refine jn_keep [0, 1, 5, 6] [] (.cons rfl (.cons rfl (.cons rfl (.cons rfl .nil)))) .nil ?_
          exact jn_loop (fun a w hi => ⟨k + 1, (by first | omega | (simp; omega)), (by omega), Sub.inv ⟨(by repeat (first | exact SubS_nil | refine SubS_cons rfl (by first | rfl | (simp; done) | assumption | (refine congrArg (SV.tv (rSlice (rInt .i64))) ?_; first | (unfold chgF; rw [hs]; done) | (unfold chgF; rw [hs]; simp [insF_uniqS]; done))) ?_)), (by repeat (first | exact SubH_nil | refine SubH_cons rfl (by first | rfl | (simp; done) | assumption) ?_))⟩ hi⟩)
      · have h6 : ¬ 1 ≤ l[k].2.2.2.2.1.1 := by simpa using h6
        rw [if_neg h6] at hs
        refine j_skip (jn_seq (j_seq ?_))
        refine j_region ?_
        refine jg_adr _ rfl _ rfl rfl (op_move (.base rfl)) ?_
        refine jg_adr _ rfl _ rfl rfl (op_move (.base rfl)) ?_
        refine jg_adr _ rfl _ rfl rfl (op_index Try.underlying22 ty45 (.base rfl) (.base rfl) rfl (List.getElem?_eq_getElem (by first | omega | (simp; done) | (simp; omega) | (simp at hg; omega)))) ?_
        refine jg_adr _ rfl _ rfl rfl (op_field fld45_4 ln45_4 (.base rfl)) ?_
        refine jg_adr _ rfl _ rfl rfl (op_field fld40_1 ln40_1 (.base rfl)) ?_
        refine jg_adr _ rfl _ rfl rfl (op_load ty3 (.base rfl)) ?_
        refine jg_adr _ rfl _ rfl rfl (op_leq (.base rfl) (.base rfl)) ?_
        refine jg_nil ?_
        refine jn_keep [0, 1, 5, 6, 51] [] (.cons rfl (.cons rfl (.cons rfl (.cons rfl (.cons rfl .nil))))) .nil ?_
        refine jn_seq ?_
        refine j_cond rfl (fun h8 => ?_) (fun h8 => ?_)
        · have h8 : l[k].2.2.2.2.1.2 ≤ 109572 := by simpa using h8
          rw [if_pos h8] at hs
          refine j_region ?_
          refine jg_adr _ rfl _ rfl rfl (op_move (.base rfl)) ?_
          refine jg_adr _ rfl _ rfl rfl (op_move (.base rfl)) ?_
          refine jg_adr _ rfl _ rfl rfl (op_move (.base rfl)) ?_
          refine jg_adr _ rfl _ rfl rfl (op_index Try.underlying22 ty45 (.base rfl) (.base rfl) rfl (List.getElem?_eq_getElem (by first | omega | (simp; done) | (simp; omega) | (simp at hg; omega)))) ?_
          refine jg_adr _ rfl _ rfl rfl (op_field fld45_4 ln45_4 (.base rfl)) ?_
          refine jg_adr _ rfl _ rfl rfl (op_field fld40_1 ln40_1 (.base rfl)) ?_
          refine jg_adr _ rfl _ rfl rfl (op_load ty3 (.base rfl)) ?_
          refine jg_adr _ rfl _ rfl rfl (op_call (rinsert_ok _ _ (by first | omega | (have := hcl2 (l[k].2.2.2.2.1.1); omega))) (.cons (.base rfl) (.cons (.base rfl) .nil)) rfl rfl) ?_
          refine jg_adr _ rfl _ rfl rfl (op_assign (.base rfl)) ?_
          refine jg_nil ?_
          refine jn_keep [0, 1, 5, 6] [] (.cons rfl (.cons rfl (.cons rfl (.cons rfl .nil)))) .nil ?_
          refine jn_blk (jn_seq ?_)
          refine j_region ?_
          refine jg_adr _ rfl _ rfl rfl (op_move (.base rfl)) ?_
          refine jg_adr _ rfl _ rfl rfl (op_add (.base rfl) (.base rfl) (w64 (by omega))) ?_
          refine jg_adr _ rfl _ rfl rfl (op_assign (.base rfl)) ?_
          refine jg_nil ?_
          refine jn_keep [0, 1, 5, 6] [] (.cons rfl (.cons rfl (.cons rfl (.cons rfl .nil)))) .nil ?_
          exact jn_loop (fun a w hi => ⟨k + 1, (by first | omega | (simp; omega)), (by omega), Sub.inv ⟨(by repeat (first | exact SubS_nil | refine SubS_cons rfl (by first | rfl | (simp; done) | assumption | (refine congrArg (SV.tv (rSlice (rInt .i64))) ?_; first | (unfold chgF; rw [hs]; done) | (unfold chgF; rw [hs]; simp [insF_uniqS]; done))) ?_)), (by repeat (first | exact SubH_nil | refine SubH_cons rfl (by first | rfl | (simp; done) | assumption) ?_))⟩ hi⟩)
        · have h8 : ¬ l[k].2.2.2.2.1.2 ≤ 109572 := by simpa using h8
          rw [if_neg h8] at hs
          refine j_skip (jn_blk (jn_seq ?_))
          refine j_region ?_
          refine jg_adr _ rfl _ rfl rfl (op_move (.base rfl)) ?_
          refine jg_adr _ rfl _ rfl rfl (op_add (.base rfl) (.base rfl) (w64 (by omega))) ?_
          refine jg_adr _ rfl _ rfl rfl (op_assign (.base rfl)) ?_
          refine jg_nil ?_
          refine jn_keep [0, 1, 5, 6] [] (.cons rfl (.cons rfl (.cons rfl (.cons rfl .nil)))) .nil ?_
          exact jn_loop (fun a w hi => ⟨k + 1, (by first | omega | (simp; omega)), (by omega), Sub.inv ⟨(by repeat (first | exact SubS_nil | refine SubS_cons rfl (by first | rfl | (simp; done) | assumption | (refine congrArg (SV.tv (rSlice (rInt .i64))) ?_; first | (unfold chgF; rw [hs]; done) | (unfold chgF; rw [hs]; simp [insF_uniqS]; done))) ?_)), (by repeat (first | exact SubH_nil | refine SubH_cons rfl (by first | rfl | (simp; done) | assumption) ?_))⟩ hi⟩)
  · have h3 : l.length ≤ k := by simp at h3; omega
    refine j_exit (je_seq (je_loop (je_blk (jn_seq (j_seq ?_)))))
    refine j_region ?_
    refine jg_adr _ rfl _ rfl rfl (op_move (.base rfl)) ?_
    refine jg_adr _ rfl _ rfl rfl (op_assign (.base rfl)) ?_
    refine jg_nil ?_
    refine jn_keep [4] [] (.cons rfl .nil) .nil ?_
    refine jn_seq (j_ret ?_)
    exact jr_fin1 Try.results17 (res_tmp rfl) rfl (congrArg (SV.tv (rSlice (rInt .i64))) (by rw [List.take_of_length_le (by omega)]))

end Go.Proofs.Ytfamnoalgjkjhaa
