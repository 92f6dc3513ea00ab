import Derived.Test.YtemcooggkcneiaaM4
import Derived.Test.YtemcooggkcneiaaM1
namespace Go.Proofs.Ytemcooggkcneiaa
open Go.Eng
set_option maxRecDepth 100000
set_option maxHeartbeats 4000000
set_option linter.unusedVariables false
set_option linter.unusedSimpArgs false

noncomputable def mK71 : KeyT Try.prog 3 Int := keyInt Try.underlying3
noncomputable def mE : ElT Try.prog 4 Bool false := elBool Try.underlying4 Try.zeroValue4
theorem int_val (x : Int) (w : World) (ok : Ok) (v : Value) (h : (rInt .i64).val w ok v x) : v = .int .i64 x := by
  obtain ⟨cs, h1, rfl⟩ := h
  have h1 : cs = [.int .i64 x] := h1
  subst h1; rfl

theorem path_ok (n : Nat) (dd : List (List Int)) (dst : List Int) (start L : Int) (hP : PH n dd dst L start) (hn : n ≤ 14) (hB : ∀ x, -1 ≤ st dst x ∧ st dst x ≤ 1000) : Ct Try.prog 30 [.tv (rSlice (rSlice (rInt .i64))) dd, .tv (rSlice (rInt .i64)) dst, .raw (.int .i64 start), .raw (.int .i64 L)] (.tv (rSlice (rInt .i64)) (pth dd dst L start (L - 1).toNat)) := by
  refine ct_intro Try.func30 rfl rfl Try.ntmps30 rfl rfl ?_
  intro w0 ok0
  have hok : ∀ x : Int, 0 ≤ x → x < n → mK71.ok x := fun x h0 h1 => by show (Lit.int .i64 x).wf = true; have e1 : IntKind.i64.min = -9223372036854775808 := rfl; have e2 : IntKind.i64.max = 9223372036854775807 := rfl; simp [Lit.wf, e1, e2]; omega
  refine j_seq ?_
  refine j_region ?_
  refine jg_adr _ rfl _ rfl rfl (op_assign (.base rfl)) ?_
  refine jg_nil ?_
  refine jn_keep [0, 1, 2, 3] [] (.cons rfl (.cons rfl (.cons rfl (.cons rfl .nil)))) .nil ?_
  refine jn_seq (j_seq ?_)
  refine j_region ?_
  refine jg_adr _ rfl _ rfl rfl (op_move (.base rfl)) ?_
  refine jg_os _ rfl (op_obslice (rt := rInt .i64) Try.underlying28 ty3 z3 rfl (.cons (.raw (.base rfl) rfl) .nil) rfl rfl rfl rfl rfl) ?_
  refine jg_adr _ rfl _ rfl rfl (op_assign (.base rfl)) ?_
  refine jg_nil ?_
  refine jn_keep [0, 1, 2, 3, 9] [16] (.cons rfl (.cons rfl (.cons rfl (.cons rfl (.cons rfl .nil))))) (.cons rfl .nil) ?_
  refine jn_seq (j_seq ?_)
  refine j_region ?_
  refine jg_os _ rfl (op_makeMapK mK71 mE rfl rfl) ?_
  refine jg_adr _ rfl _ rfl rfl (op_move (.base rfl)) ?_
  refine jg_os _ rfl (op_insertK (K := mK71) (E := mE) (true) Try.underlying71 (.base rfl) rfl (int_val _) (.raw (.base rfl) rfl) (.base rfl) (hok _ hP.s0 hP.sn) trivial (by unfold maxLen; omega)) ?_
  refine jg_adr _ rfl _ rfl rfl (op_move (.base rfl)) ?_
  refine jg_adr _ rfl _ rfl rfl (op_assign (.base rfl)) ?_
  refine jg_nil ?_
  refine jn_keep [0, 1, 3, 9, 10] [16, 17] (.cons rfl (.cons rfl (.cons rfl (.cons rfl (.cons rfl .nil))))) (.cons rfl (.cons rfl .nil)) ?_
  refine jn_seq (j_seq ?_)
  refine j_region ?_
  refine jg_os _ rfl (op_obslice (rt := rInt .i64) Try.underlying28 ty3 z3 rfl (.cons (.raw (.base rfl) rfl) .nil) rfl rfl rfl rfl rfl) ?_
  refine jg_adr _ rfl _ rfl rfl (op_assign (.base rfl)) ?_
  refine jg_nil ?_
  refine jn_keep [0, 1, 3, 9, 10, 11] [16, 17, 20] (.cons rfl (.cons rfl (.cons rfl (.cons rfl (.cons rfl (.cons rfl .nil)))))) (.cons rfl (.cons rfl (.cons rfl .nil))) ?_
  refine jn_seq (j_seq (j_block ?_))
  refine j_loopp (ι := (Nat × List Int)) (fun (k, tr) => ⟨[(0, .tv (rSlice (rSlice (rInt .i64))) dd), (1, .tv (rSlice (rInt .i64)) dst), (3, .raw (.int .i64 (L))), (9, .own 16 (rInt .i64).n 0 (k + 1)), (10, .mref 17), (11, .own 20 (rInt .i64).n 0 (k + 1))], [(16, ⟨rInt .i64, (pth dd dst L start k)⟩), (17, ⟨rMapK mK71 mE, [(none, k + 1, (onP dd dst L start k))]⟩), (20, ⟨rInt .i64, tr⟩)]⟩) (fun (k, tr) => (k : Int) + 1 ≤ L ∧ tr.length = k + 1 ∧ tr[k]? = some 0) (fun (k, tr) => L.toNat - k) (0, [0]) (⟨by have := hP.l1; omega, rfl, rfl⟩) (fun a w hi => Sub.inv ⟨(by repeat (first | exact SubS_nil | refine SubS_cons rfl (by first | rfl | (simp; done) | assumption) ?_)), (by repeat (first | exact SubH_nil | refine SubH_cons rfl (by first | rfl | (simp; done) | assumption | (refine congrArg (fun F => HB.mk (rMapK mK71 mE) [(none, 0 + 1, F)]) ?_; exact onP_zero; done)) ?_))⟩ hi) ?_
  rintro ⟨k, tr⟩ ⟨hk, htl, htk⟩
  refine j_seq (j_seq ?_)
  have hln := hP.ln
  have hl1 := hP.l1
  have hpl := pth_len (dd := dd) (dst := dst) (L := L) (start := start) k
  refine j_region ?_
  refine jg_adr _ rfl _ rfl rfl (op_move (.base rfl)) ?_
  refine jg_adr _ rfl _ rfl rfl (op_len_own Try.underlying28 (.base rfl)) ?_
  refine jg_adr _ rfl _ rfl rfl (op_gtr (.base rfl) (.base rfl)) ?_
  refine jg_adr _ rfl _ rfl rfl (op_move (.base rfl)) ?_
  refine jg_gd _ _ _ _ _ _ rfl rfl rfl rfl rfl (fun hg => op_move (.base rfl)) ?_
  refine jg_gd _ _ _ _ _ _ rfl rfl rfl rfl rfl (fun hg => op_len_own Try.underlying28 (.gd rfl hg)) ?_
  refine jg_gd _ _ _ _ _ _ rfl rfl rfl rfl rfl (fun hg => op_move (.base rfl)) ?_
  refine jg_gd _ _ _ _ _ _ rfl rfl rfl rfl rfl (fun hg => op_lss (.gd rfl hg) (.gd rfl hg)) ?_
  refine jg_adr _ rfl _ rfl rfl (op_pick_and (.base rfl) (.base rfl) rfl (by intro h; first | (rw [h]; rfl) | (rw [hg, h]; rfl) | (rw [h, hg]; rfl) | simp_all)) ?_
  refine jg_nil ?_
  refine jn_keep [0, 1, 3, 9, 10, 11, 29] [16, 17, 20] (.cons rfl (.cons rfl (.cons rfl (.cons rfl (.cons rfl (.cons rfl (.cons rfl .nil))))))) (.cons rfl (.cons rfl (.cons rfl .nil))) ?_
  refine jn_seq ?_
  refine j_cond rfl (fun h4 => ?_) (fun h4 => ?_)
  · have h4 : (k : Int) + 1 < L := by simp at h4; omega
    obtain ⟨hx0, hxn⟩ := hP.inr k (by omega)
    have hxl : (lst dd dst L start k).toNat < dd.length := by rw [hP.wf.len]; omega
    have hxc : lst dd dst L start k = (((lst dd dst L start k).toNat : Nat) : Int) := by omega
    have hrl := hP.wf.rlen (lst dd dst L start k)
    refine j_skip (jn_seq (j_block (j_seq ?_)))
    refine j_region ?_
    refine jg_adr _ rfl _ rfl rfl (op_move (.base rfl)) ?_
    refine jg_adr _ rfl _ rfl rfl (op_len_own Try.underlying28 (.base rfl)) ?_
    refine jg_adr _ rfl _ rfl rfl (op_sub (.base rfl) (.base rfl) (w64 (by omega))) ?_
    refine jg_adr _ rfl _ rfl rfl (op_assign (.base rfl)) ?_
    rw [show (((k + 1 : Nat) : Int) - 1) = ((k : Nat) : Int) by omega]
    refine jg_nil ?_
    refine jn_keep [0, 1, 3, 9, 10, 11, 12] [16, 17, 20] (.cons rfl (.cons rfl (.cons rfl (.cons rfl (.cons rfl (.cons rfl (.cons rfl .nil))))))) (.cons rfl (.cons rfl (.cons rfl .nil))) ?_
    refine jn_seq (j_seq ?_)
    refine j_region ?_
    refine jg_adr _ rfl _ rfl rfl (op_move (.base rfl)) ?_
    refine jg_adr _ rfl _ rfl rfl (op_move (.base rfl)) ?_
    refine jg_adr _ rfl _ rfl rfl (op_move (.base rfl)) ?_
    refine jg_adr _ rfl _ rfl rfl (op_oindex Try.underlying28 ty3 (.base rfl) (.base rfl) rfl (by first | omega | (simp; done) | (simp; omega))) ?_
    refine jg_adr _ rfl _ rfl rfl (op_oload ty3 (.base rfl) rfl (by rw [Nat.zero_add]; exact pth_at (Nat.le_refl _)) (Lens.id _)) ?_
    refine jg_adr _ rfl _ rfl rfl (op_index Try.underlying43 ty28 (.base rfl) (.base rfl) hxc (List.getElem?_eq_getElem (by first | omega | (simp; done) | (simp; omega) | (simp at hg; omega)))) ?_
    refine jg_adr _ rfl _ rfl rfl (op_load ty28 (.base rfl)) ?_
    refine jg_adr _ rfl _ rfl rfl (op_assign (.base rfl)) ?_
    rw [rw_at hxl]
    refine jg_nil ?_
    refine jn_keep [0, 1, 3, 9, 10, 11, 12, 13] [16, 17, 20] (.cons rfl (.cons rfl (.cons rfl (.cons rfl (.cons rfl (.cons rfl (.cons rfl (.cons rfl .nil)))))))) (.cons rfl (.cons rfl (.cons rfl .nil))) ?_
    refine jn_seq (j_seq ?_)
    refine j_region ?_
    refine jg_adr _ rfl _ rfl rfl (op_move (.base rfl)) ?_
    refine jg_adr _ rfl _ rfl rfl (op_move (.base rfl)) ?_
    refine jg_adr _ rfl _ rfl rfl (op_oindex Try.underlying28 ty3 (.base rfl) (.base rfl) rfl (by first | omega | (simp; done) | (simp; omega))) ?_
    refine jg_adr _ rfl _ rfl rfl (op_oload ty3 (.base rfl) rfl (by rw [Nat.zero_add]; exact htk) (Lens.id _)) ?_
    refine jg_adr _ rfl _ rfl rfl (op_assign (.base rfl)) ?_
    refine jg_nil ?_
    refine jn_keep [0, 1, 3, 9, 10, 11, 12, 13, 14] [16, 17, 20] (.cons rfl (.cons rfl (.cons rfl (.cons rfl (.cons rfl (.cons rfl (.cons rfl (.cons rfl (.cons rfl .nil))))))))) (.cons rfl (.cons rfl (.cons rfl .nil))) ?_
    refine jn_seq (j_seq (j_block ?_))
    refine j_loopp (ι := Nat) (fun j => ⟨[(0, .tv (rSlice (rSlice (rInt .i64))) dd), (1, .tv (rSlice (rInt .i64)) dst), (3, .raw (.int .i64 (L))), (9, .own 16 (rInt .i64).n 0 (k + 1)), (10, .mref 17), (11, .own 20 (rInt .i64).n 0 (k + 1)), (12, .raw (.int .i64 ((k : Nat)))), (13, .tv (rSlice (rInt .i64)) (rw dd (lst dd dst L start k))), (14, .raw (.int .i64 ((j : Nat))))], [(16, ⟨rInt .i64, (pth dd dst L start k)⟩), (17, ⟨rMapK mK71 mE, [(none, k + 1, (onP dd dst L start k))]⟩), (20, ⟨rInt .i64, tr⟩)]⟩) (fun j => j ≤ (rw dd (lst dd dst L start k)).length ∧ ∀ i, (h : i < j) → (hi : i < (rw dd (lst dd dst L start k)).length) → st dst (rw dd (lst dd dst L start k))[i] ≠ L - ((k : Int) + 1)) (fun j => (rw dd (lst dd dst L start k)).length - j) 0 (⟨Nat.zero_le _, fun i h => by omega⟩) (fun a w hi => (Sub.inv ⟨(by repeat (first | exact SubS_nil | refine SubS_cons rfl (by first | rfl | (simp; done) | assumption) ?_)), (by repeat (first | exact SubH_nil | refine SubH_cons rfl (by first | rfl | (simp; done) | assumption) ?_))⟩ hi)) ?_
    rintro j ⟨hj, hjn⟩
    have hE : 0 ≤ ((rw dd (lst dd dst L start k)).getD j 0) ∧ ((rw dd (lst dd dst L start k)).getD j 0) < n := by
      by_cases q : j < (rw dd (lst dd dst L start k)).length
      · have : ((rw dd (lst dd dst L start k)).getD j 0) = (rw dd (lst dd dst L start k))[j] := by simp [q]
        rw [this]; exact hP.wf.ent _ _ (List.getElem_mem q)
      · have : ((rw dd (lst dd dst L start k)).getD j 0) = 0 := by simp [q]
        rw [this]; have := hP.s0; have := hP.sn; omega
    obtain ⟨e, hee⟩ : ∃ e, e = ((rw dd (lst dd dst L start k)).getD j 0) := ⟨_, rfl⟩
    rw [← hee] at hE
    have hel : e.toNat < dst.length := by rw [hP.dl]; omega
    have hec : e = ((e.toNat : Nat) : Int) := by omega
    have hdb := hB e
    refine j_seq (j_seq ?_)
    refine j_region ?_
    refine jg_adr _ rfl _ rfl rfl (op_move (.base rfl)) ?_
    refine jg_adr _ rfl _ rfl rfl (op_move (.base rfl)) ?_
    refine jg_adr _ rfl _ rfl rfl (op_len Try.underlying28 (.base rfl)) ?_
    refine jg_adr _ rfl _ rfl rfl (op_lss (.base rfl) (.base rfl)) ?_
    refine jg_adr _ rfl _ rfl rfl (op_move (.base rfl)) ?_
    refine jg_gd _ _ _ _ _ _ rfl rfl rfl rfl rfl (fun hg => op_move (.base rfl)) ?_
    refine jg_gd _ _ _ _ _ _ rfl rfl rfl rfl rfl (fun hg => op_move (.base rfl)) ?_
    refine jg_gd _ _ _ _ _ _ rfl rfl rfl rfl rfl (fun hg => op_move (.base rfl)) ?_
    refine jg_gd _ _ _ _ _ _ rfl rfl rfl rfl rfl (fun hg => op_index Try.underlying28 ty3 (.gd rfl hg) (.gd rfl hg) rfl (show (rw dd (lst dd dst L start k))[j]? = some e by rw [hee]; exact getD_some (by simp at hg; omega))) ?_
    refine jg_gd _ _ _ _ _ _ rfl rfl rfl rfl rfl (fun hg => op_load ty3 (.gd rfl hg)) ?_
    refine jg_gd _ _ _ _ _ _ rfl rfl rfl rfl rfl (fun hg => (show Adr _ _ _ _ (.raw (.bool (((onP dd dst L start k) e).getD false))) from op_lookupK (K := mK71) (E := mE) Try.underlying71 (.gd rfl hg) rfl (int_val _) (.raw (.gd rfl hg) rfl) (hok _ hE.1 hE.2))) ?_
    refine jg_gd _ _ _ _ _ _ rfl rfl rfl rfl rfl (fun hg => op_move (.gd rfl hg)) ?_
    refine jg_gd2 _ _ _ _ _ _ _ rfl rfl rfl rfl rfl (fun hg => op_move (.base rfl)) ?_
    refine jg_gd2 _ _ _ _ _ _ _ rfl rfl rfl rfl rfl (fun hg => op_move (.base rfl)) ?_
    refine jg_gd2 _ _ _ _ _ _ _ rfl rfl rfl rfl rfl (fun hg => op_move (.base rfl)) ?_
    refine jg_gd2 _ _ _ _ _ _ _ rfl rfl rfl rfl rfl (fun hg => op_index Try.underlying28 ty3 (.gd rfl hg) (.gd rfl hg) rfl (show (rw dd (lst dd dst L start k))[j]? = some e by rw [hee]; exact getD_some (by simp at hg; omega))) ?_
    refine jg_gd2 _ _ _ _ _ _ _ rfl rfl rfl rfl rfl (fun hg => op_load ty3 (.gd rfl hg)) ?_
    refine jg_gd2 _ _ _ _ _ _ _ rfl rfl rfl rfl rfl (fun hg => op_index Try.underlying28 ty3 (.gd rfl hg) (.gd rfl hg) hec (st_get' hel)) ?_
    refine jg_gd2 _ _ _ _ _ _ _ rfl rfl rfl rfl rfl (fun hg => op_load ty3 (.gd rfl hg)) ?_
    refine jg_gd2 _ _ _ _ _ _ _ rfl rfl rfl rfl rfl (fun hg => op_move (.base rfl)) ?_
    refine jg_gd2 _ _ _ _ _ _ _ rfl rfl rfl rfl rfl (fun hg => op_move (.base rfl)) ?_
    refine jg_gd2 _ _ _ _ _ _ _ rfl rfl rfl rfl rfl (fun hg => op_len_own Try.underlying28 (.gd rfl hg)) ?_
    refine jg_gd2 _ _ _ _ _ _ _ rfl rfl rfl rfl rfl (fun hg => op_sub (.gd rfl hg) (.gd rfl hg) (w64 (by omega))) ?_
    refine jg_gd2 _ _ _ _ _ _ _ rfl rfl rfl rfl rfl (fun hg => op_neq (.gd rfl hg) (.gd rfl hg)) ?_
    refine jg_gd _ _ _ _ _ _ rfl rfl rfl rfl rfl (fun hg => op_pick_or (.gd rfl hg) (.base rfl) rfl (by intro h; first | (rw [h]; rfl) | (rw [hg, h]; rfl) | (rw [h, hg]; rfl) | simp_all)) ?_
    refine jg_adr _ rfl _ rfl rfl (op_pick_and (.base rfl) (.base rfl) rfl (by intro h; first | (rw [h]; rfl) | (rw [hg, h]; rfl) | (rw [h, hg]; rfl) | simp_all)) ?_
    refine jg_nil ?_
    refine jn_keep [0, 1, 3, 9, 10, 11, 12, 13, 14, 69] [16, 17, 20] (.cons rfl (.cons rfl (.cons rfl (.cons rfl (.cons rfl (.cons rfl (.cons rfl (.cons rfl (.cons rfl (.cons rfl .nil)))))))))) (.cons rfl (.cons rfl (.cons rfl .nil))) ?_
    refine jn_seq ?_
    refine j_cond rfl (fun h8 => ?_) (fun h8 => ?_)
    · have hjl : j < (rw dd (lst dd dst L start k)).length := by simp at h8; omega
      have h8b : st dst e ≠ L - ((k : Int) + 1) := by
        by_cases q : ((onP dd dst L start k) e).getD false = true
        · exact hP.off h4 ((onP_get k e).1 q)
        · intro q2; simp [q, q2, hjl] at h8
      refine j_skip (jn_seq (j_block ?_))
      refine j_region ?_
      refine jg_adr _ rfl _ rfl rfl (op_move (.base rfl)) ?_
      refine jg_adr _ rfl _ rfl rfl (op_add (.base rfl) (.base rfl) (w64 (by omega))) ?_
      refine jg_adr _ rfl _ rfl rfl (op_assign (.base rfl)) ?_
      refine jg_nil ?_
      refine jn_keep [0, 1, 3, 9, 10, 11, 12, 13, 14] [16, 17, 20] (.cons rfl (.cons rfl (.cons rfl (.cons rfl (.cons rfl (.cons rfl (.cons rfl (.cons rfl (.cons rfl .nil))))))))) (.cons rfl (.cons rfl (.cons rfl .nil))) ?_
      refine jn_blk ?_
      exact jn_loop (fun a w hi => ⟨j + 1, (by first | omega | (simp; omega)), (⟨by omega, fun i h hi2 => by by_cases q : i = j; (subst q; have : (rw dd (lst dd dst L start k))[i] = e := (by rw [hee, List.getD_eq_getElem?_getD, List.getElem?_eq_getElem hi2]; rfl); rw [this]; exact h8b); exact hjn i (by omega) hi2⟩), Sub.inv ⟨(by repeat (first | exact SubS_nil | refine SubS_cons rfl (by first | rfl | (simp; done) | assumption) ?_)), (by repeat (first | exact SubH_nil | refine SubH_cons rfl (by first | rfl | (simp; done) | assumption) ?_))⟩ hi⟩)
    · have hjl : j < (rw dd (lst dd dst L start k)).length := by
        apply Classical.byContradiction
        intro q
        obtain ⟨z, hz1, hz2⟩ := hP.ex k h4
        obtain ⟨i, hi, rfl⟩ := List.mem_iff_getElem.1 hz1
        exact hjn i (by omega) hi hz2
      have hej : e = (rw dd (lst dd dst L start k))[j] := by rw [hee]; simp [hjl]
      have h8c : st dst e = L - ((k : Int) + 1) := by
        by_cases q : ((onP dd dst L start k) e).getD false = true
        · simp [q, hjl] at h8
        · simp [q, hjl] at h8; omega
      have hnx : lst dd dst L start (k + 1) = (rw dd (lst dd dst L start k))[j] := nxE_at hjl (by rw [← hej]; exact h8c) (fun i hi => hjn i hi (by omega))
      have hupd : updK (onP dd dst L start k) (rw dd (lst dd dst L start k))[j] true = onP dd dst L start (k + 1) := by rw [← hnx]; exact onP_upd k
      refine j_exit (je_seq (je_loop (je_blk (jn_seq (j_seq (j_seq ?_))))))
      refine j_region ?_
      refine jg_adr _ rfl _ rfl rfl (op_move (.base rfl)) ?_
      refine jg_adr _ rfl _ rfl rfl (op_move (.base rfl)) ?_
      refine jg_adr _ rfl _ rfl rfl (op_len Try.underlying28 (.base rfl)) ?_
      refine jg_adr _ rfl _ rfl rfl (op_lss (.base rfl) (.base rfl)) ?_
      refine jg_nil ?_
      refine jn_keep [0, 1, 3, 9, 10, 11, 12, 13, 14, 75] [16, 17, 20] (.cons rfl (.cons rfl (.cons rfl (.cons rfl (.cons rfl (.cons rfl (.cons rfl (.cons rfl (.cons rfl (.cons rfl .nil)))))))))) (.cons rfl (.cons rfl (.cons rfl .nil))) ?_
      refine jn_seq ?_
      refine j_cond rfl (fun h10 => ?_) (fun h10 => ?_)
      · try simp at h10
        refine j_seq ?_
        refine j_region ?_
        refine jg_adr _ rfl _ rfl rfl (op_move (.base rfl)) ?_
        refine jg_adr _ rfl _ rfl rfl (op_move (.base rfl)) ?_
        refine jg_adr _ rfl _ rfl rfl (op_move (.base rfl)) ?_
        refine jg_adr _ rfl _ rfl rfl (op_add (.base rfl) (.base rfl) (w64 (by omega))) ?_
        refine jg_adr _ rfl _ rfl rfl (op_oindex Try.underlying28 ty3 (.base rfl) (.base rfl) rfl (by first | omega | (simp; done) | (simp; omega))) ?_
        refine jg_os _ rfl (op_ostore ty3 (.base rfl) rfl (List.getElem?_eq_getElem (by first | omega | (simp; done) | (simp; omega))) (Lens.id _) (.raw (.base rfl) rfl)) ?_
        refine jg_nil ?_
        refine jn_keep [0, 1, 3, 9, 10, 11, 13, 14] [16, 17, 20] (.cons rfl (.cons rfl (.cons rfl (.cons rfl (.cons rfl (.cons rfl (.cons rfl (.cons rfl .nil)))))))) (.cons rfl (.cons rfl (.cons rfl .nil))) ?_
        refine jn_seq (j_seq ?_)
        refine j_region ?_
        refine jg_adr _ rfl _ rfl rfl (op_move (.base rfl)) ?_
        refine jg_adr _ rfl _ rfl rfl (op_move (.base rfl)) ?_
        refine jg_adr _ rfl _ rfl rfl (op_move (.base rfl)) ?_
        refine jg_adr _ rfl _ rfl rfl (op_index Try.underlying28 ty3 (.base rfl) (.base rfl) rfl (List.getElem?_eq_getElem (by first | omega | (simp; done) | (simp; omega) | (simp at hg; omega)))) ?_
        refine jg_adr _ rfl _ rfl rfl (op_load ty3 (.base rfl)) ?_
        refine jg_os _ rfl (op_mapUpdateK (K := mK71) (E := mE) (true) Try.underlying71 (.base rfl) rfl (int_val _) (.raw (.base rfl) rfl) (.base rfl) (hok _ (by rw [← hej]; exact hE.1) (by rw [← hej]; exact hE.2)) trivial (by unfold maxLen; omega)) ?_
        refine jg_nil ?_
        refine jn_keep [0, 1, 3, 9, 10, 11, 13, 14] [16, 17, 20] (.cons rfl (.cons rfl (.cons rfl (.cons rfl (.cons rfl (.cons rfl (.cons rfl (.cons rfl .nil)))))))) (.cons rfl (.cons rfl (.cons rfl .nil))) ?_
        refine jn_seq (j_seq ?_)
        refine j_region ?_
        refine jg_adr _ rfl _ rfl rfl (op_move (.base rfl)) ?_
        refine jg_adr _ rfl _ rfl rfl (op_move (.base rfl)) ?_
        refine jg_adr _ rfl _ rfl rfl (op_move (.base rfl)) ?_
        refine jg_adr _ rfl _ rfl rfl (op_index Try.underlying28 ty3 (.base rfl) (.base rfl) rfl (List.getElem?_eq_getElem (by first | omega | (simp; done) | (simp; omega) | (simp at hg; omega)))) ?_
        refine jg_adr _ rfl _ rfl rfl (op_load ty3 (.base rfl)) ?_
        refine jg_adr _ rfl _ rfl rfl (op_bslice (rt := (rInt .i64)) Try.underlying28 ty3 z3 rfl (.cons (.raw (.base rfl) rfl) .nil) rfl rfl) ?_
        refine jg_os _ rfl (op_append [0, 1, 3, 10, 11] Try.underlying28 ty3 z3 rfl by3 (.base rfl) rfl (by (try simp); try omega) (.tv (.base rfl)) (by unfold maxLen; (try simp); try omega) (by (try simp); try omega) rfl (.cons rfl (.cons rfl (.cons rfl (.cons rfl (.cons rfl .nil))))) rfl) ?_
        refine jg_adr _ rfl _ rfl rfl (op_assign (.base rfl)) ?_
        refine jg_nil ?_
        refine jn_keep [0, 1, 3, 9, 10, 11] [16, 17, 20] (.cons rfl (.cons rfl (.cons rfl (.cons rfl (.cons rfl (.cons rfl .nil)))))) (.cons rfl (.cons rfl (.cons rfl .nil))) ?_
        refine jn_seq (j_seq ?_)
        refine j_region ?_
        refine jg_adr _ rfl _ rfl rfl (op_move (.base rfl)) ?_
        refine jg_adr _ rfl _ rfl rfl (op_bslice (rt := (rInt .i64)) Try.underlying28 ty3 z3 rfl (.cons (.raw (.base rfl) rfl) .nil) rfl rfl) ?_
        refine jg_os _ rfl (op_append [0, 1, 3, 9, 10] Try.underlying28 ty3 z3 rfl by3 (.base rfl) rfl (by (try simp); try omega) (.tv (.base rfl)) (by unfold maxLen; (try simp); try omega) (by (try simp); try omega) rfl (.cons rfl (.cons rfl (.cons rfl (.cons rfl (.cons rfl .nil))))) rfl) ?_
        refine jg_adr _ rfl _ rfl rfl (op_assign (.base rfl)) ?_
        refine jg_nil ?_
        refine jn_keep [0, 1, 3, 9, 10, 11] [16, 17, 20] (.cons rfl (.cons rfl (.cons rfl (.cons rfl (.cons rfl (.cons rfl .nil)))))) (.cons rfl (.cons rfl (.cons rfl .nil))) ?_
        refine jn_seq (j_exit (je_seq (je_blk ?_)))
        exact jn_loop (fun a w hi => ⟨(k + 1, (tr.set (0 + k) ((j : Int) + 1)).take (k + 1) ++ [0]), (by show L.toNat - (k + 1) < L.toNat - k; omega), ⟨by omega, by simp [htl], by rw [List.getElem?_append_right (by simp [htl])]; simp [htl]⟩, Sub.inv ⟨(by repeat (first | exact SubS_nil | refine SubS_cons rfl (by first | rfl | (simp; done) | assumption | (refine congrArg (SV.own 16 (rInt .i64).n 0) ?_; simp; done)) ?_)), (by repeat (first | exact SubH_nil | refine SubH_cons rfl (by first | rfl | (simp; done) | assumption | (refine congrArg (HB.mk (rInt .i64)) ?_; rw [pth_succ, hnx, List.drop_zero, List.take_of_length_le (by rw [pth_len]; omega)]; done) | (refine congrArg (HB.mk (rInt .i64)) ?_; rw [List.drop_zero]; done) | (refine congrArg (fun F => HB.mk (rMapK mK71 mE) [(none, k + 1 + 1, F)]) ?_; exact hupd; done)) ?_))⟩ hi⟩)
      · exfalso; simp at h10; omega
  · have h4 : (k : Int) + 1 = L := by simp at h4; omega
    refine j_exit (je_seq (je_loop (je_blk (jn_seq (j_seq ?_)))))
    refine j_region ?_
    refine jg_adr _ rfl _ rfl rfl (op_move (.base rfl)) ?_
    refine jg_adr _ rfl _ rfl rfl (op_assign (.base rfl)) ?_
    refine jg_nil ?_
    refine jn_keep [8] [16] (.cons rfl .nil) (.cons rfl .nil) ?_
    refine jn_seq (j_ret ?_)
    refine jr_seal (rt := rInt .i64) 16 8 (dropH 16 _) rfl rfl (by rw [pth_len]; omega) (dropH_sub 16 _) (dropH_no 16 _) ?_
    exact jr_fin1 Try.results30 (res_tmp rfl) rfl (congrArg (SV.tv (rSlice (rInt .i64))) (by rw [List.drop_zero, List.take_of_length_le (by rw [pth_len]; omega), show k = (L - 1).toNat by omega]))

end Go.Proofs.Ytemcooggkcneiaa
namespace Go.Proofs.Ytemcooggkcneiaa
open Go.Eng
set_option maxRecDepth 100000
set_option maxHeartbeats 4000000
set_option linter.unusedVariables false
set_option linter.unusedSimpArgs false


theorem allD_rw (s : TScope) {x : Int} (h0 : 0 ≤ x) (hn : x < scN s) : rw (allD s) x = dirs s x := by
  unfold rw allD
  rw [List.getD_eq_getElem?_getD, List.getElem?_map, List.getElem?_range (by omega)]
  simp [show ((x.toNat : Nat) : Int) = x by omega, h0]
theorem dirs_mem {s : TScope} {x e : Int} (h : e ∈ dirs s x) : 0 ≤ e ∧ e < scN s := by
  unfold dirs at h
  split at h
  · rw [(uniqS_ok _).2] at h
    unfold accD at h
    rw [List.mem_flatMap] at h
    obtain ⟨r, _, hr⟩ := h
    unfold rdf at hr
    rw [List.mem_append] at hr
    rcases hr with hr | hr <;> (have := (List.mem_filter.1 hr).2; simp [inN] at this; exact this)
  · cases h
theorem dirs_strict (s : TScope) (x : Int) : (dirs s x).Pairwise (· < ·) := by
  unfold dirs; split
  · exact (uniqS_ok _).1
  · exact .nil
theorem allD_wf (s : TScope) : WFd (scN s) (allD s) := by
  have hl : (allD s).length = scN s := by simp [allD]
  refine ⟨hl, fun x e he => ?_, fun x => ?_⟩
  · by_cases hx : x.toNat < scN s
    · rw [rw_nat, allD_rw s (by omega) (by omega)] at he; exact dirs_mem he
    · rw [rw_out hl hx] at he; cases he
  · by_cases hx : x.toNat < scN s
    · rw [rw_nat, allD_rw s (by omega) (by omega)]; exact dirs_strict _ _
    · rw [rw_out hl hx]; exact .nil
theorem nodup_take {l : List Int} (h : l.Pairwise (· < ·)) {j : Nat} (hj : j < l.length) : l[j] ∉ l.take j := fun hm => by
  obtain ⟨i, hi, e⟩ := List.mem_iff_getElem.1 hm
  simp at hi e
  have := List.pairwise_iff_getElem.1 h i j (by omega) hj (by omega)
  omega
theorem rvK_rlen {dd : List (List Int)} {n k : Nat} {l : List Int} {x : Nat} (h : x < n) : ((rvK dd n k l).getD x []).length ≤ k + 1 := by
  rw [List.getD_eq_getElem?_getD, rvK_at h, Option.getD_some, List.length_append, List.length_map]
  have := List.length_filter_le (fun (d : Nat) => decide ((x : Int) ∈ rw dd (d : Int))) (List.range k)
  simp only [List.length_range] at this
  split <;> simp <;> omega
theorem take_app (R : List Int) (a : Int) : ((R.drop 0).take R.length ++ [a]).take (R.length + [a].length) = R ++ [a] := by rw [List.drop_zero, List.take_length]; exact List.take_of_length_le (by simp)
theorem rvK_get {dd : List (List Int)} {n k : Nat} {l : List Int} {x : Nat} (h : x < n) : (rvK dd n k l)[x]? = some ((rvK dd n k l).getD x []) := by
  rw [List.getD_eq_getElem?_getD, rvK_at h]; rfl

theorem findCycle_ok (s : TScope) (hL : Lim s) : Ct Try.prog 12 [.tv rScope s] (.tv (rSlice (rInt .i64)) (cycF (scN s) (allD s))) := by
  refine ct_intro Try.func12 rfl rfl Try.ntmps12 rfl rfl ?_
  intro w0 ok0
  refine j_seq ?_
  refine j_region ?_
  refine jg_os _ rfl (op_box (.tv (.base rfl)) rfl rfl rfl) ?_
  refine jg_adr _ rfl _ rfl rfl (op_assign (.base rfl)) ?_
  refine jg_nil ?_
  refine jn_keep [1] [1] (.cons rfl .nil) (.cons rfl .nil) ?_
  refine jn_seq (j_seq ?_)
  refine j_region ?_
  refine jg_adr _ rfl _ rfl rfl (op_oload ty25 (.base rfl) rfl rfl (Lens.id _)) ?_
  refine jg_adr _ rfl _ rfl rfl (op_call (allDirect_ok s hL) (.cons (.base rfl) .nil) rfl rfl) ?_
  refine jg_adr _ rfl _ rfl rfl (op_assign (.base rfl)) ?_
  refine jg_nil ?_
  refine jn_keep [3] [] (.cons rfl .nil) .nil ?_
  refine jn_seq (j_seq ?_)
  obtain ⟨n, hnn⟩ : ∃ n, n = scN s := ⟨_, rfl⟩
  obtain ⟨dd, hdd⟩ : ∃ dd, dd = allD s := ⟨_, rfl⟩
  have w : WFd n dd := by rw [hnn, hdd]; exact allD_wf s
  have hn14 : n ≤ 14 := by rw [hnn]; exact hL.1
  rw [← hdd]
  have hdl := w.len
  have hdl14 : dd.length ≤ 14 := by omega
  refine j_region ?_
  refine jg_adr _ rfl _ rfl rfl (op_move (.base rfl)) ?_
  refine jg_adr _ rfl _ rfl rfl (op_len Try.underlying43 (.base rfl)) ?_
  refine jg_os _ rfl (op_make (rt := rHd) Try.underlying43 tyH28 zH28 rfl by28 (.base rfl) (.base rfl) (by omega) (by unfold maxLen; omega) rfl rfl rfl) ?_
  refine jg_adr _ rfl _ rfl rfl (op_assign (.base rfl)) ?_
  refine jg_nil ?_
  rw [hdl]
  refine jn_vacF 4 1000 n [3] [19] (rInt .i64) rfl rfl (.cons rfl .nil) rfl (.cons rfl .nil) rfl ?_
  refine jn_seq (j_seq (j_seq ?_))
  refine j_region ?_
  refine jg_adr _ rfl _ rfl rfl (op_move (.base rfl)) ?_
  refine jg_adr _ rfl _ rfl rfl (op_len Try.underlying43 (.base rfl)) ?_
  refine jg_adr _ rfl _ rfl rfl (op_move (.base rfl)) ?_
  rw [hdl]
  refine jg_nil ?_
  refine jn_keepF (b := 1000) [3, 4, 20, 21, 22] [19] (.cons rfl (.cons rfl (.cons rfl (.cons rfl (.cons rfl .nil))))) (by repeat (first | exact .nil | refine .cons rfl ?_)) (.cons rfl .nil) ?_
  refine jn_seq (j_block ?_)
  refine j_loopp (ι := (Nat × List (Option Addr × Nat × Nat))) (fun (k, hs) => ⟨[(3, .tv (rSlice (rSlice (rInt .i64))) dd), (4, .fam (.own 19 1 0 n) 1000 1 (hs.map some)), (20, .tv (rSlice (rSlice (rInt .i64))) dd), (21, .raw (.int .i64 ((n : Nat)))), (22, .raw (.int .i64 ((k : Nat))))], (19, ⟨rHd, hs⟩) :: famH (rInt .i64) 1000 (rvK dd n k [])⟩) (fun (k, hs) => k ≤ n ∧ HdOK hs (rvK dd n k [])) (fun (k, hs) => n - k) (0, List.replicate n (none, 0, 0)) (⟨Nat.zero_le _, by rw [rvK_zero]; exact HdOK.zero _⟩) (fun a w hi => (Sub.inv ⟨(by repeat (first | exact SubS_nil | refine SubS_cons rfl (by first | rfl | (simp; done) | assumption | (refine congrArg (SV.fam (SV.own 19 1 0 n) 1000 1) ?_; rw [List.map_replicate]; done)) ?_)), (by repeat (first | refine SubH_cons rfl (by first | rfl | (simp; done) | assumption | (refine congrArg (HB.mk rHd) ?_; simp; done)) ?_ | exact SubH_tail (by repeat (first | exact .nil | refine .cons rfl ?_)) (by rw [rvK_zero])))⟩ hi)) ?_
  rintro ⟨k, hs⟩ ⟨hk, hq0⟩
  refine j_seq ?_
  refine j_region ?_
  refine jg_adr _ rfl _ rfl rfl (op_lss (.base rfl) (.base rfl)) ?_
  refine jg_nil ?_
  refine jn_keepF (b := 1000) [3, 4, 20, 21, 22, 23] [19] (.cons rfl (.cons rfl (.cons rfl (.cons rfl (.cons rfl (.cons rfl .nil)))))) (by repeat (first | exact .nil | refine .cons rfl ?_)) (.cons rfl .nil) ?_
  refine jn_seq (j_seq ?_)
  refine j_cond rfl (fun h4 => ?_) (fun h4 => ?_)
  · have h4 : k < n := by simp at h4; omega
    have hrl := w.rlen (k : Int)
    refine j_skip (jn_seq (j_seq (j_block (j_seq ?_))))
    refine j_region ?_
    refine jg_adr _ rfl _ rfl rfl (op_move (.base rfl)) ?_
    refine jg_adr _ rfl _ rfl rfl (op_index Try.underlying43 ty28 (.base rfl) (.base rfl) rfl (show dd[k]? = some (rw dd (k : Int)) by simp [rw, show k < dd.length by omega])) ?_
    refine jg_adr _ rfl _ rfl rfl (op_load ty28 (.base rfl)) ?_
    refine jg_adr _ rfl _ rfl rfl (op_assign (.base rfl)) ?_
    refine jg_adr _ rfl _ rfl rfl (op_assign (.base rfl)) ?_
    refine jg_nil ?_
    refine jn_keepF (b := 1000) [3, 4, 5, 6, 20, 21, 22] [19] (.cons rfl (.cons rfl (.cons rfl (.cons rfl (.cons rfl (.cons rfl (.cons rfl .nil))))))) (by repeat (first | exact .nil | refine .cons rfl ?_)) (.cons rfl .nil) ?_
    refine jn_seq (j_seq ?_)
    refine j_region ?_
    refine jg_adr _ rfl _ rfl rfl (op_move (.base rfl)) ?_
    refine jg_adr _ rfl _ rfl rfl (op_len Try.underlying28 (.base rfl)) ?_
    refine jg_adr _ rfl _ rfl rfl (op_move (.base rfl)) ?_
    refine jg_nil ?_
    refine jn_keepF (b := 1000) [3, 4, 5, 20, 21, 22, 27, 28, 29] [19] (.cons rfl (.cons rfl (.cons rfl (.cons rfl (.cons rfl (.cons rfl (.cons rfl (.cons rfl (.cons rfl .nil))))))))) (by repeat (first | exact .nil | refine .cons rfl ?_)) (.cons rfl .nil) ?_
    refine jn_seq (j_block ?_)
    refine j_loopp (ι := (Nat × List (Option Addr × Nat × Nat))) (fun (j, hs) => ⟨[(3, .tv (rSlice (rSlice (rInt .i64))) dd), (4, .fam (.own 19 1 0 n) 1000 1 (hs.map some)), (5, .raw (.int .i64 ((k : Nat)))), (20, .tv (rSlice (rSlice (rInt .i64))) dd), (21, .raw (.int .i64 ((n : Nat)))), (22, .raw (.int .i64 ((k : Nat)))), (27, .tv (rSlice (rInt .i64)) (rw dd (k : Int))), (28, .raw (.int .i64 ((rw dd (k : Int)).length))), (29, .raw (.int .i64 ((j : Nat))))], (19, ⟨rHd, hs⟩) :: famH (rInt .i64) 1000 (rvK dd n k ((rw dd (k : Int)).take j))⟩) (fun (j, hs) => j ≤ (rw dd (k : Int)).length ∧ HdOK hs (rvK dd n k ((rw dd (k : Int)).take j))) (fun (j, hs) => (rw dd (k : Int)).length - j) (0, hs) (⟨Nat.zero_le _, hq0⟩) (fun a w hi => (Sub.inv ⟨(by repeat (first | exact SubS_nil | refine SubS_cons rfl (by first | rfl | (simp; done) | assumption | (refine congrArg (SV.fam (SV.own 19 1 0 n) 1000 1) ?_; rfl; done)) ?_)), (by repeat (first | refine SubH_cons rfl (by first | rfl | (simp; done) | assumption | (refine congrArg (HB.mk rHd) ?_; simp; done)) ?_ | exact SubH_tail (by repeat (first | exact .nil | refine .cons rfl ?_)) (rfl)))⟩ hi)) ?_
    rintro ⟨j, hs⟩ ⟨hj, hq⟩
    refine j_seq ?_
    refine j_region ?_
    refine jg_adr _ rfl _ rfl rfl (op_lss (.base rfl) (.base rfl)) ?_
    refine jg_nil ?_
    refine jn_keepF (b := 1000) [3, 4, 5, 20, 21, 22, 27, 28, 29, 30] [19] (.cons rfl (.cons rfl (.cons rfl (.cons rfl (.cons rfl (.cons rfl (.cons rfl (.cons rfl (.cons rfl (.cons rfl .nil)))))))))) (by repeat (first | exact .nil | refine .cons rfl ?_)) (.cons rfl .nil) ?_
    refine jn_seq (j_seq ?_)
    refine j_cond rfl (fun h7 => ?_) (fun h7 => ?_)
    · have h7 : j < (rw dd (k : Int)).length := by simp at h7; omega
      refine j_skip (jn_seq (j_seq (j_block (j_seq ?_))))
      refine j_region ?_
      refine jg_adr _ rfl _ rfl rfl (op_index Try.underlying28 ty3 (.base rfl) (.base rfl) rfl (List.getElem?_eq_getElem (by first | omega | (simp; done) | (simp; omega) | (simp at hg; omega)))) ?_
      refine jg_adr _ rfl _ rfl rfl (op_load ty3 (.base rfl)) ?_
      refine jg_adr _ rfl _ rfl rfl (op_assign (.base rfl)) ?_
      obtain ⟨e, hee⟩ : ∃ e, e = (rw dd (k : Int))[j] := ⟨_, rfl⟩
      rw [← hee]
      obtain ⟨he0, hen⟩ := w.ent (k : Int) e (by rw [hee]; exact List.getElem_mem h7)
      have hec : e = ((e.toNat : Nat) : Int) := by omega
      have hen2 : e.toNat < n := by omega
      have hst : (rvK dd n k ((rw dd (k : Int)).take (j + 1))) = (rvK dd n k ((rw dd (k : Int)).take j)).set e.toNat (((rvK dd n k ((rw dd (k : Int)).take j)).getD e.toNat []) ++ [(k : Int)]) := by rw [List.take_succ_eq_append_getElem h7, ← hee, rvK_step he0 hen (by rw [hee]; exact nodup_take (w.srt _) h7)]
      obtain ⟨A, cap, hget⟩ := hq.at (rvK_get (dd := dd) (k := k) (l := (rw dd (k : Int)).take j) hen2)
      have hx1 : (hs.map some)[e.toNat]? = some (some (A, ((rvK dd n k ((rw dd (k : Int)).take j)).getD e.toNat []).length, cap)) := by rw [List.getElem?_map, hget]; rfl
      have hx2 := (rvK_get (dd := dd) (k := k) (l := (rw dd (k : Int)).take j) hen2)
      have hxl : e.toNat < hs.length := (List.getElem?_eq_some_iff.1 hget).1
      have hx3 : ((hs.map some).set e.toNat none)[e.toNat]? = some none := by rw [List.getElem?_set_self (by simpa using hxl)]
      have hx4 : (((rvK dd n k ((rw dd (k : Int)).take j))).set e.toNat [])[e.toNat]? = some [] := by rw [List.getElem?_set_self (by rw [rvK_len]; omega)]
      have hset : (((rvK dd n k ((rw dd (k : Int)).take j)).set e.toNat []).set e.toNat (((((rvK dd n k ((rw dd (k : Int)).take j)).getD e.toNat []).drop 0).take ((rvK dd n k ((rw dd (k : Int)).take j)).getD e.toNat []).length ++ [(k : Int)]).take (((rvK dd n k ((rw dd (k : Int)).take j)).getD e.toNat []).length + [(k : Int)].length))) = (rvK dd n k ((rw dd (k : Int)).take (j + 1))) := by rw [take_app, List.set_set, hst]
      have hal := rvK_rlen (dd := dd) (k := k) (l := (rw dd (k : Int)).take j) hen2
      refine jg_nil ?_
      refine jn_keepF (b := 1000) [3, 4, 5, 8, 20, 21, 22, 27, 28, 29] [19] (.cons rfl (.cons rfl (.cons rfl (.cons rfl (.cons rfl (.cons rfl (.cons rfl (.cons rfl (.cons rfl (.cons rfl .nil)))))))))) (by repeat (first | exact .nil | refine .cons rfl ?_)) (.cons rfl .nil) ?_
      refine jn_seq ?_
      refine j_region ?_
      refine jg_adr _ rfl _ rfl rfl (op_move (.f1 rfl)) ?_
      refine jg_adr _ rfl _ rfl rfl (op_move (.base rfl)) ?_
      refine jg_adr _ rfl _ rfl rfl (op_move (.f1 rfl)) ?_
      refine jg_adr _ rfl _ rfl rfl (op_move (.base rfl)) ?_
      refine jg_adr _ rfl _ rfl rfl (op_oindex Try.underlying43 tyH28 (.base rfl) (.base rfl) hec hen2) ?_
      refine jg_adr _ rfl _ rfl rfl (op_oload tyH28 (.base rfl) rfl (by rw [Nat.zero_add]; exact hget) (Lens.id _)) ?_
      refine jg_adr _ rfl _ rfl rfl (op_move (.base rfl)) ?_
      refine jg_adr _ rfl _ rfl rfl (op_bslice (rt := (rInt .i64)) Try.underlying28 ty3 z3 rfl (.cons (.raw (.base rfl) rfl) .nil) rfl rfl) ?_
      refine jg_takeF (rt := rInt .i64) (xs := ((rvK dd n k ((rw dd (k : Int)).take j)).getD e.toNat [])) (m := ((rvK dd n k ((rw dd (k : Int)).take j)).getD e.toNat []).length) (A := A) (cap := cap) 4 38 60 e.toNat [3, 5, 20, 21, 22, 27, 28, 29, 33, 34, 40] [19] rfl rfl hx1 hx2 rfl rfl (.cons rfl (.cons rfl (.cons rfl (.cons rfl (.cons rfl (.cons rfl (.cons rfl (.cons rfl (.cons rfl (.cons rfl (.cons rfl .nil))))))))))) rfl rfl rfl (by repeat (first | exact .nil | refine .cons rfl ?_)) (.cons rfl .nil) rfl rfl ?_
      refine jg_os _ rfl (op_append [3, 4, 5, 20, 21, 22, 27, 28, 29, 33, 34] Try.underlying28 ty3 z3 rfl by3 (.base rfl) rfl (by omega) (.tv (.base rfl)) (by unfold maxLen; (try simp only [List.length_cons, List.length_nil]); omega) (by (try simp only [List.length_cons, List.length_nil]); omega) rfl (.cons rfl (.cons rfl (.cons rfl (.cons rfl (.cons rfl (.cons rfl (.cons rfl (.cons rfl (.cons rfl (.cons rfl (.cons rfl .nil))))))))))) rfl) ?_
      refine jg_adr _ rfl _ rfl rfl (op_oindex Try.underlying43 tyH28 (.base rfl) (.base rfl) hec hen2) ?_
      refine jg_giveF (rt := rInt .i64) 4 41 60 e.toNat [3, 5, 20, 21, 22, 27, 28, 29, 42] [19] rfl rfl hx3 hx4 rfl (by simp) rfl rfl (.cons rfl (.cons rfl (.cons rfl (.cons rfl (.cons rfl (.cons rfl (.cons rfl (.cons rfl (.cons rfl .nil))))))))) rfl rfl rfl (by repeat (first | exact .nil | refine .cons rfl ?_)) (.cons rfl .nil) rfl rfl (fun A2 cap2 => ?_)
      refine jg_os _ rfl (op_ostore (d := (A2, ((rvK dd n k ((rw dd (k : Int)).take j)).getD e.toNat []).length + [(k : Int)].length, cap2)) tyH28 (.base rfl) rfl (by rw [Nat.zero_add]; exact hget) (Lens.id _) (.raw (.base rfl) rfl)) ?_
      refine jg_nil ?_
      refine jn_keepF (b := 1000) [3, 4, 5, 20, 21, 22, 27, 28, 29] [19] (.cons rfl (.cons rfl (.cons rfl (.cons rfl (.cons rfl (.cons rfl (.cons rfl (.cons rfl (.cons rfl .nil))))))))) (by repeat (first | exact .nil | refine .cons rfl ?_)) (.cons rfl .nil) ?_
      refine jn_blk (jn_seq ?_)
      refine j_region ?_
      refine jg_adr _ rfl _ rfl rfl (op_add (.base rfl) (.base rfl) (w64 (by omega))) ?_
      refine jg_adr _ rfl _ rfl rfl (op_move (.base rfl)) ?_
      refine jg_nil ?_
      refine jn_keepF (b := 1000) [3, 4, 5, 20, 21, 22, 27, 28, 29] [19] (.cons rfl (.cons rfl (.cons rfl (.cons rfl (.cons rfl (.cons rfl (.cons rfl (.cons rfl (.cons rfl .nil))))))))) (by repeat (first | exact .nil | refine .cons rfl ?_)) (.cons rfl .nil) ?_
      exact jn_loop (fun a w hi => ⟨(j + 1, hs.set e.toNat (A2, ((rvK dd n k ((rw dd (k : Int)).take j)).getD e.toNat []).length + [(k : Int)].length, cap2)), (by show (rw dd (k : Int)).length - (j + 1) < (rw dd (k : Int)).length - j; omega), ⟨by omega, by rw [hst]; exact hq.set (by rw [rvK_len]; omega) (by simp)⟩, Sub.inv ⟨(by repeat (first | exact SubS_nil | refine SubS_cons rfl (by first | rfl | (simp; done) | assumption | (refine congrArg (SV.fam (SV.own 19 1 0 n) 1000 1) ?_; simp [List.map_set]; done)) ?_)), (by repeat (first | refine SubH_cons rfl (by first | rfl | (simp; done) | assumption | (refine congrArg (HB.mk rHd) ?_; simp; done)) ?_ | exact SubH_tail (by repeat (first | exact .nil | refine .cons rfl ?_)) (hset)))⟩ hi⟩)
    · have hjl : j = (rw dd (k : Int)).length := by simp at h7; omega
      refine j_exit (je_seq (je_loop (je_blk (jn_blk (jn_seq ?_)))))
      refine j_region ?_
      refine jg_adr _ rfl _ rfl rfl (op_add (.base rfl) (.base rfl) (w64 (by omega))) ?_
      refine jg_adr _ rfl _ rfl rfl (op_move (.base rfl)) ?_
      refine jg_nil ?_
      refine jn_keepF (b := 1000) [3, 4, 20, 21, 22] [19] (.cons rfl (.cons rfl (.cons rfl (.cons rfl (.cons rfl .nil))))) (by repeat (first | exact .nil | refine .cons rfl ?_)) (.cons rfl .nil) ?_
      exact jn_loop (fun a w hi => ⟨(k + 1, hs), (by show n - (k + 1) < n - k; omega), ⟨by omega, by rw [← rvK_next]; rw [hjl, List.take_length] at hq; exact hq⟩, Sub.inv ⟨(by repeat (first | exact SubS_nil | refine SubS_cons rfl (by first | rfl | (simp; done) | assumption | (refine congrArg (SV.fam (SV.own 19 1 0 n) 1000 1) ?_; rfl; done)) ?_)), (by repeat (first | refine SubH_cons rfl (by first | rfl | (simp; done) | assumption | (refine congrArg (HB.mk rHd) ?_; simp; done)) ?_ | exact SubH_tail (by repeat (first | exact .nil | refine .cons rfl ?_)) (by rw [hjl, List.take_length, rvK_next])))⟩ hi⟩)
  · have h4 : k = n := by simp at h4; omega
    refine j_exit (je_seq (je_loop (je_blk (jn_seq (j_seq ?_)))))
    subst h4
    refine j_foldF (b := 1000) (rt := rInt .i64) 4 19 [3] [] rfl hq0.1 hq0.2 rfl rfl rfl (.cons rfl .nil) rfl (by repeat (first | exact .nil | refine .cons rfl ?_)) .nil rfl rfl ?_
    refine j_seal (rt := rSlice (rInt .i64)) 19 4 (dropH 19 _) rfl rfl (by rw [rvK_len]; omega) (dropH_sub 19 _) (dropH_no 19 _) ?_
    rw [List.drop_zero, List.take_of_length_le (by rw [rvK_len]; omega), show rvK dd k k [] = rvs k dd from rfl]
    refine j_region ?_
    refine jg_adr _ rfl _ rfl rfl (op_assign (.base rfl)) ?_
    refine jg_nil ?_
    refine jn_keep [3, 4, 9] [] (.cons rfl (.cons rfl (.cons rfl .nil))) .nil ?_
    refine jn_seq (j_seq ?_)
    refine j_region ?_
    refine jg_adr _ rfl _ rfl rfl (op_assign (.base rfl)) ?_
    refine jg_nil ?_
    refine jn_keep [3, 4, 9, 10] [] (.cons rfl (.cons rfl (.cons rfl (.cons rfl .nil)))) .nil ?_
    refine jn_seq (j_seq ?_)
    refine j_region ?_
    refine jg_adr _ rfl _ rfl rfl (op_assign (.base rfl)) ?_
    refine jg_nil ?_
    refine jn_keep [3, 4, 9, 10, 11] [] (.cons rfl (.cons rfl (.cons rfl (.cons rfl (.cons rfl .nil))))) .nil ?_
    refine jn_seq (j_seq (j_seq ?_))
    refine j_region ?_
    refine jg_adr _ rfl _ rfl rfl (op_move (.base rfl)) ?_
    refine jg_adr _ rfl _ rfl rfl (op_len Try.underlying43 (.base rfl)) ?_
    refine jg_adr _ rfl _ rfl rfl (op_move (.base rfl)) ?_
    rw [hdl]
    refine jg_nil ?_
    refine jn_keep [3, 4, 9, 10, 11, 46, 47] [] (.cons rfl (.cons rfl (.cons rfl (.cons rfl (.cons rfl (.cons rfl (.cons rfl .nil))))))) .nil ?_
    refine jn_seq (j_block ?_)
    refine j_nil 11 (rInt .i64) rfl ?_
    refine j_loopp (ι := Nat) (fun i => ⟨[(3, .tv (rSlice (rSlice (rInt .i64))) dd), (4, .tv (rSlice (rSlice (rInt .i64))) (rvs k dd)), (9, .raw (.int .i64 ((cyS k dd i).1))), (10, .raw (.int .i64 ((cyS k dd i).2.1))), (11, .tv (rSlice (rInt .i64)) (cyS k dd i).2.2), (46, .raw (.int .i64 ((k : Nat)))), (47, .raw (.int .i64 ((i : Nat))))], []⟩) (fun i => i ≤ k) (fun i => k - i) 0 (Nat.zero_le _) (fun a w hi => (Sub.inv ⟨(by repeat (first | exact SubS_nil | refine SubS_cons rfl (by first | rfl | (simp; done) | assumption) ?_)), (by repeat (first | exact SubH_nil | refine SubH_cons rfl (by first | rfl | (simp; done) | assumption) ?_))⟩ hi)) ?_
    rintro i hi0
    refine j_seq ?_
    refine j_region ?_
    refine jg_adr _ rfl _ rfl rfl (op_lss (.base rfl) (.base rfl)) ?_
    refine jg_nil ?_
    refine jn_keep [3, 4, 9, 10, 11, 46, 47, 48] [] (.cons rfl (.cons rfl (.cons rfl (.cons rfl (.cons rfl (.cons rfl (.cons rfl (.cons rfl .nil)))))))) .nil ?_
    refine jn_seq (j_seq ?_)
    refine j_cond rfl (fun h16 => ?_) (fun h16 => ?_)
    · have h16 : i < k := by simp at h16; omega
      have wr := rvs_wf (n := k) dd
      have hdb := fun x => distL_bnd wr (t := (i : Int)) (by omega) (by omega) x
      have hrl2 := w.rlen (i : Int)
      refine j_skip (jn_seq (j_seq (j_block (j_seq ?_))))
      refine j_region ?_
      refine jg_adr _ rfl _ rfl rfl (op_move (.base rfl)) ?_
      refine jg_adr _ rfl _ rfl rfl (op_assign (.base rfl)) ?_
      refine jg_nil ?_
      refine jn_keep [3, 4, 9, 10, 11, 12, 46, 47] [] (.cons rfl (.cons rfl (.cons rfl (.cons rfl (.cons rfl (.cons rfl (.cons rfl (.cons rfl .nil)))))))) .nil ?_
      refine jn_seq (j_seq ?_)
      refine j_region ?_
      refine jg_adr _ rfl _ rfl rfl (op_move (.base rfl)) ?_
      refine jg_adr _ rfl _ rfl rfl (op_move (.base rfl)) ?_
      refine jg_adr _ rfl _ rfl rfl (op_call (dist_ok k (rvs k dd) (i : Int) wr hn14 (by omega) (by omega)) (.cons (.base rfl) (.cons (.base rfl) .nil)) rfl rfl) ?_
      refine jg_adr _ rfl _ rfl rfl (op_assign (.base rfl)) ?_
      refine jg_nil ?_
      refine jn_keep [3, 4, 9, 10, 11, 12, 13, 46, 47] [] (.cons rfl (.cons rfl (.cons rfl (.cons rfl (.cons rfl (.cons rfl (.cons rfl (.cons rfl (.cons rfl .nil))))))))) .nil ?_
      refine jn_seq (j_seq ?_)
      refine j_region ?_
      refine jg_adr _ rfl _ rfl rfl (op_move (.base rfl)) ?_
      refine jg_adr _ rfl _ rfl rfl (op_move (.base rfl)) ?_
      refine jg_adr _ rfl _ rfl rfl (op_index Try.underlying43 ty28 (.base rfl) (.base rfl) rfl (show dd[i]? = some (rw dd (i : Int)) by simp [rw, show i < dd.length by omega])) ?_
      refine jg_adr _ rfl _ rfl rfl (op_load ty28 (.base rfl)) ?_
      refine jg_adr _ rfl _ rfl rfl (op_move (.base rfl)) ?_
      refine jg_adr _ rfl _ rfl rfl (op_call (short_ok (rw dd (i : Int)) (distL k (rvs k dd) (i : Int)) (by omega) (fun e he => by rw [distL_len]; exact w.ent _ _ he) (fun x => by have := hdb x; omega)) (.cons (.base rfl) (.cons (.base rfl) .nil)) rfl rfl) ?_
      refine jg_adr _ rfl _ rfl rfl (op_assign (.base rfl)) ?_
      rw [show shT (distL k (rvs k dd) (i : Int)) (rw dd (i : Int)) = cyL k dd i from rfl]
      refine jg_nil ?_
      refine jn_keep [3, 4, 9, 10, 11, 12, 13, 14, 46, 47] [] (.cons rfl (.cons rfl (.cons rfl (.cons rfl (.cons rfl (.cons rfl (.cons rfl (.cons rfl (.cons rfl (.cons rfl .nil)))))))))) .nil ?_
      refine jn_seq (j_seq ?_)
      refine j_region ?_
      refine jg_adr _ rfl _ rfl rfl (op_move (.base rfl)) ?_
      refine jg_adr _ rfl _ rfl rfl (op_gtr (.base rfl) (.base rfl)) ?_
      refine jg_adr _ rfl _ rfl rfl (op_move (.base rfl)) ?_
      refine jg_gd _ _ _ _ _ _ rfl rfl rfl rfl rfl (fun hg => op_move (.base rfl)) ?_
      refine jg_gd _ _ _ _ _ _ rfl rfl rfl rfl rfl (fun hg => op_lss (.gd rfl hg) (.base rfl)) ?_
      refine jg_gd _ _ _ _ _ _ rfl rfl rfl rfl rfl (fun hg => op_move (.gd rfl hg)) ?_
      refine jg_gd2 _ _ _ _ _ _ _ rfl rfl rfl rfl rfl (fun hg => op_move (.base rfl)) ?_
      refine jg_gd2 _ _ _ _ _ _ _ rfl rfl rfl rfl rfl (fun hg => op_move (.base rfl)) ?_
      refine jg_gd2 _ _ _ _ _ _ _ rfl rfl rfl rfl rfl (fun hg => op_lss (.gd rfl hg) (.gd rfl hg)) ?_
      refine jg_gd _ _ _ _ _ _ rfl rfl rfl rfl rfl (fun hg => op_pick_or (.gd rfl hg) (.base rfl) rfl (by intro h; first | (rw [h]; rfl) | (rw [hg, h]; rfl) | (rw [h, hg]; rfl) | simp_all)) ?_
      refine jg_adr _ rfl _ rfl rfl (op_pick_and (.base rfl) (.base rfl) rfl (by intro h; first | (rw [h]; rfl) | (rw [hg, h]; rfl) | (rw [h, hg]; rfl) | simp_all)) ?_
      refine jg_nil ?_
      refine jn_keep [3, 4, 9, 10, 11, 12, 13, 14, 46, 47, 69] [] (.cons rfl (.cons rfl (.cons rfl (.cons rfl (.cons rfl (.cons rfl (.cons rfl (.cons rfl (.cons rfl (.cons rfl (.cons rfl .nil))))))))))) .nil ?_
      refine jn_seq ?_
      refine j_cond rfl (fun h20 => ?_) (fun h20 => ?_)
      · have hc : 0 < cyL k dd i ∧ ((cyS k dd i).2.1 < 0 ∨ cyL k dd i < (cyS k dd i).1) := by
          by_cases q1 : 0 < cyL k dd i
          · by_cases q2 : (cyS k dd i).2.1 < 0
            · exact ⟨q1, .inl q2⟩
            · simp [q1, q2] at h20; exact ⟨q1, .inr h20⟩
          · simp [q1] at h20
        have hs : cyS k dd (i + 1) = (cyL k dd i, (i : Int), distL k (rvs k dd) (i : Int)) := by rw [cyS, if_pos hc]
        refine j_region ?_
        refine jg_adr _ rfl _ rfl rfl (op_move (.base rfl)) ?_
        refine jg_adr _ rfl _ rfl rfl (op_move (.base rfl)) ?_
        refine jg_adr _ rfl _ rfl rfl (op_move (.base rfl)) ?_
        refine jg_adr _ rfl _ rfl rfl (op_assign (.base rfl)) ?_
        refine jg_adr _ rfl _ rfl rfl (op_assign (.base rfl)) ?_
        refine jg_adr _ rfl _ rfl rfl (op_assign (.base rfl)) ?_
        refine jg_nil ?_
        refine jn_keep [3, 4, 9, 10, 11, 46, 47] [] (.cons rfl (.cons rfl (.cons rfl (.cons rfl (.cons rfl (.cons rfl (.cons rfl .nil))))))) .nil ?_
        refine jn_blk (jn_seq ?_)
        refine j_region ?_
        refine jg_adr _ rfl _ rfl rfl (op_add (.base rfl) (.base rfl) (w64 (by omega))) ?_
        refine jg_adr _ rfl _ rfl rfl (op_move (.base rfl)) ?_
        refine jg_nil ?_
        refine jn_keep [3, 4, 9, 10, 11, 46, 47] [] (.cons rfl (.cons rfl (.cons rfl (.cons rfl (.cons rfl (.cons rfl (.cons rfl .nil))))))) .nil ?_
        exact jn_loop (fun a w hi => ⟨i + 1, (by first | omega | (simp; omega)), (by omega), Sub.inv ⟨(by repeat (first | exact SubS_nil | refine SubS_cons rfl (by first | rfl | (simp; done) | assumption | (rw [hs]; done) | (rw [hs])) ?_)), (by repeat (first | exact SubH_nil | refine SubH_cons rfl (by first | rfl | (simp; done) | assumption) ?_))⟩ hi⟩)
      · have hc : ¬ (0 < cyL k dd i ∧ ((cyS k dd i).2.1 < 0 ∨ cyL k dd i < (cyS k dd i).1)) := by
          rintro ⟨q1, q2⟩
          by_cases q3 : (cyS k dd i).2.1 < 0
          · simp [q1, q3] at h20
          · simp [q1, q3] at h20; omega
        have hs : cyS k dd (i + 1) = (cyS k dd i) := by rw [cyS, if_neg hc]
        refine j_skip (jn_blk (jn_seq ?_))
        refine j_region ?_
        refine jg_adr _ rfl _ rfl rfl (op_add (.base rfl) (.base rfl) (w64 (by omega))) ?_
        refine jg_adr _ rfl _ rfl rfl (op_move (.base rfl)) ?_
        refine jg_nil ?_
        refine jn_keep [3, 4, 9, 10, 11, 46, 47] [] (.cons rfl (.cons rfl (.cons rfl (.cons rfl (.cons rfl (.cons rfl (.cons rfl .nil))))))) .nil ?_
        exact jn_loop (fun a w hi => ⟨i + 1, (by first | omega | (simp; omega)), (by omega), Sub.inv ⟨(by repeat (first | exact SubS_nil | refine SubS_cons rfl (by first | rfl | (simp; done) | assumption | (rw [hs]; done) | (rw [hs])) ?_)), (by repeat (first | exact SubH_nil | refine SubH_cons rfl (by first | rfl | (simp; done) | assumption) ?_))⟩ hi⟩)
    · have h16 : i = k := by simp at h16; omega
      subst h16
      have hcs := cyS_is i dd i
      refine j_exit (je_seq (je_loop (je_blk (jn_seq (j_seq (j_seq ?_))))))
      refine j_region ?_
      refine jg_adr _ rfl _ rfl rfl (op_move (.base rfl)) ?_
      refine jg_adr _ rfl _ rfl rfl (op_lss (.base rfl) (.base rfl)) ?_
      refine jg_nil ?_
      refine jn_keep [3, 9, 10, 11, 75] [] (.cons rfl (.cons rfl (.cons rfl (.cons rfl (.cons rfl .nil))))) .nil ?_
      refine jn_seq ?_
      refine j_cond rfl (fun h23 => ?_) (fun h23 => ?_)
      · have h23 : (cyS i dd i).2.1 < 0 := by simpa using h23
        refine j_seq ?_
        refine j_region ?_
        refine jg_adr _ rfl _ rfl rfl (op_assign (.base rfl)) ?_
        refine jg_nil ?_
        refine jn_keep [2] [] (.cons rfl .nil) .nil ?_
        refine jn_seq (j_ret (jr_seq ?_))
        exact jr_fin1 Try.results12 (res_nil rfl) rfl (congrArg (SV.tv (rSlice (rInt .i64))) (by unfold cycF; rw [← hnn, if_pos h23]))
      · have h23 : ¬ (cyS i dd i).2.1 < 0 := by simpa using h23
        obtain ⟨z, hz1, hz2, hz3, _⟩ := hcs.resolve_left (fun q => h23 q.1)
        have hP := PH_of w hz1 hz3
        have wr := rvs_wf (n := i) dd
        have hdb := fun x => distL_bnd wr (t := (z : Int)) (by omega) (by omega) x
        refine j_skip (jn_seq (j_seq ?_))
        rw [hz2]
        refine j_region ?_
        refine jg_adr _ rfl _ rfl rfl (op_move (.base rfl)) ?_
        refine jg_adr _ rfl _ rfl rfl (op_move (.base rfl)) ?_
        refine jg_adr _ rfl _ rfl rfl (op_move (.base rfl)) ?_
        refine jg_adr _ rfl _ rfl rfl (op_move (.base rfl)) ?_
        refine jg_adr _ rfl _ rfl rfl (op_call (path_ok i dd _ _ _ hP hn14 (fun x => by have := hdb x; omega)) (.cons (.base rfl) (.cons (.base rfl) (.cons (.base rfl) (.cons (.base rfl) .nil)))) rfl rfl) ?_
        refine jg_adr _ rfl _ rfl rfl (op_assign (.base rfl)) ?_
        refine jg_nil ?_
        refine jn_keep [2] [] (.cons rfl .nil) .nil ?_
        refine jn_seq (j_ret ?_)
        exact jr_fin1 Try.results12 (res_tmp rfl) rfl (congrArg (SV.tv (rSlice (rInt .i64))) (by unfold cycF; rw [← hnn, if_neg h23, hz2]))

end Go.Proofs.Ytemcooggkcneiaa
