import Derived.Test.YtmdhmgngomlheaaP30i
namespace Go.Proofs.Ytmdhmgngomlheaa
open Go.Eng
set_option maxRecDepth 100000
set_option maxHeartbeats 4000000
set_option linter.unusedVariables false
set_option linter.unusedSimpArgs false

theorem row_end {α : Type} {l r : List α} : List.take l.length (List.drop 0 l) ++ r = l ++ r := by rw [List.drop_zero, List.take_length]
theorem prm_none (n : Nat) (S : Nat → Bool) (x : TPattern) : x ∈ ([] : List TPattern) ↔ (∃ q, x = pc q ∧ prm n S q = true) ∧ (fS (imp n S) x).isSome = false :=
  ⟨fun h => (by simp at h), fun ⟨⟨q, h1, h2⟩, h3⟩ => by subst h1; rw [fS_isSome, (prm_vld h2).1] at h3; cases h3⟩
theorem prm_new {n : Nat} {S : Nat → Bool} {left : TPattern → Bool} {acc : List TPattern} {q : NP} (hmem : ∀ x, x ∈ acc ↔ (∃ q, x = pc q ∧ prm n S q = true) ∧ left x = false) (hl : left (pc q) = true) (hp : prm n S q = true) (x : TPattern) :
    x ∈ acc ++ [pc q] ↔ (∃ q, x = pc q ∧ prm n S q = true) ∧ (left x && !decide (x = pc q)) = false := by
  simp only [List.mem_append, List.mem_singleton, hmem]
  by_cases e : x = pc q
  · subst e; exact ⟨fun _ => ⟨⟨q, rfl, hp⟩, by simp⟩, fun _ => .inr rfl⟩
  · rw [show (left x && !decide (x = pc q)) = left x by simp [e]]; simp only [e, or_false]
theorem prm_old {n : Nat} {S : Nat → Bool} {left : TPattern → Bool} {acc : List TPattern} {q : NP} (hmem : ∀ x, x ∈ acc ↔ (∃ q, x = pc q ∧ prm n S q = true) ∧ left x = false) (hl : left (pc q) = true) (hp : prm n S q = false) (x : TPattern) :
    x ∈ acc ↔ (∃ q, x = pc q ∧ prm n S q = true) ∧ (left x && !decide (x = pc q)) = false := by
  rw [hmem]
  by_cases e : x = pc q
  · subst e
    have : ¬ ∃ r, pc q = pc r ∧ prm n S r = true := fun ⟨r, h1, h2⟩ => by rw [pc_inj h1, h2] at hp; cases hp
    simp [this]
  · rw [show (left x && !decide (x = pc q)) = left x by simp [e]]
theorem nd_new {left : TPattern → Bool} {acc : List TPattern} {x : TPattern} {p : TPattern → Prop} (hnd : acc.Nodup) (hmem : ∀ x, x ∈ acc ↔ p x ∧ left x = false) (hl : left x = true) : (acc ++ [x]).Nodup := by
  rw [List.nodup_append]
  refine ⟨hnd, by simp, fun a ha b hb e => ?_⟩
  rw [List.mem_singleton] at hb
  subst e; subst hb
  rw [((hmem a).1 ha).2] at hl; cases hl
theorem primes_ok (n : Nat) (hn : n ≤ 8) (S : Nat → Bool) (n0 : Nat) (hn0 : n0 ≤ 116226146700) : CtM Try.prog 24 mK42 mE n0 n0 (fS (imp n S)) (fS (imp n S)) [.raw (.int .i64 (n : Nat))] (.tv (rSlice rPattern) ((prmL n S).map pc)) := by
  refine ctM_intro Try.func24 rfl rfl Try.ntmps24 rfl rfl ?_
  intro w0 ok0 b0
  refine j_seq ?_
  refine j_region ?_
  refine jg_adr _ rfl _ rfl rfl (op_assign (.base rfl)) ?_
  refine jg_nil ?_
  refine jn_keep [0, 1] [100] (.cons rfl (.cons rfl .nil)) (.cons rfl .nil) ?_
  refine jn_seq (j_seq ?_)
  refine j_region ?_
  refine jg_adr _ rfl _ rfl rfl (op_assign (.base rfl)) ?_
  refine jg_nil ?_
  refine jn_keep [0, 1, 5] [100] (.cons rfl (.cons rfl (.cons rfl .nil))) (.cons rfl .nil) ?_
  refine jn_seq (j_seq (j_seq ?_))
  refine j_region ?_
  refine jg_adr _ rfl _ rfl rfl (op_move (.b1 rfl)) ?_
  refine jg_rangeK (K := mK42) (E := mE) Try.underlying42 (.base rfl) rfl rfl rfl rfl ?_
  intro mobj iobj rr bb cnt hcnt hrel
  refine jg_nil ?_
  refine jn_keep [0, 1, 5, 11] [11, 100] (.cons rfl (.cons rfl (.cons rfl (.cons rfl .nil)))) (.cons rfl (.cons rfl .nil)) ?_
  refine jn_seq (j_block ?_)
  refine j_vac 180 5 rPattern rfl rfl rfl ?_
  refine j_loopp (ι := Obj × (TPattern → Bool) × Nat × List TPattern) (fun (io, left, cnt, acc) => ⟨[(0, .both (.mref 100) (.map (some b0))), (1, .raw (.int .i64 ((n : Nat)))), (5, .own 180 rPattern.n 0 (acc).length), (11, itS 11 100 rr bb)], [(100, ⟨rMapK mK42 mE, [(some mobj, n0, fS (imp n S))]⟩), (11, ⟨rObj, [io]⟩), (180, ⟨rPattern, acc⟩)]⟩) (fun (io, left, cnt, acc) => RngRel mK42 mE bb mobj io n0 (fS (imp n S)) left cnt ∧ acc.length + cnt ≤ n0 ∧ acc.Nodup ∧ (∀ x, x ∈ acc ↔ (∃ q, x = pc q ∧ prm n S q = true) ∧ left x = false)) (fun (io, left, cnt, acc) => cnt) (iobj, (fun x => (fS (imp n S) x).isSome), cnt, []) (⟨hrel, by simpa using hcnt, List.nodup_nil, prm_none n S⟩) (fun a w hi => (Sub.inv ⟨(by repeat (first | exact SubS_nil | refine SubS_cons rfl (by first | rfl | (simp; done) | assumption) ?_)), (by repeat (first | exact SubH_nil | refine SubH_cons rfl (by first | rfl | (simp; done) | assumption) ?_))⟩ hi)) ?_
  rintro ⟨io, left, cnt, acc⟩ ⟨hrel, hlen, hnd, hmem⟩
  refine j_seq ?_
  refine j_region ?_
  refine jg_nextK (K := mK42) (E := mE) rfl rfl rfl hrel rfl (fun hdone => ?_) (fun x v iobj2 cnt2 hxl hxf hrel2 hlt hent => ?_)
  · refine jg_adr _ rfl _ rfl rfl (op_extR (.base rfl) rfl) ?_
    refine jg_nil ?_
    refine jn_keep [0, 1, 5, 11, 13] [11, 100, 180] (.cons rfl (.cons rfl (.cons rfl (.cons rfl (.cons rfl .nil))))) (.cons rfl (.cons rfl (.cons rfl .nil))) ?_
    have hall : ∀ x, x ∈ acc ↔ ∃ q, x = pc q ∧ prm n S q = true := fun x => (hmem x).trans ⟨fun h => h.1, fun h => ⟨h, hdone x⟩⟩
    refine jn_seq (j_seq ?_)
    refine j_cond_f rfl rfl (j_exit (je_seq (je_loop (je_blk (jn_seq (j_seq ?_))))))
    refine j_region ?_
    refine jg_adr _ rfl _ rfl rfl (op_move (.base rfl)) ?_
    refine jg_os _ rfl (op_turnK turnKR (.base rfl) (.base rfl) rfl (by rfl) (by omega) rfl) ?_
    refine jg_nil ?_
    refine jn_keep [0, 5] [100, 180] (.cons rfl (.cons rfl .nil)) (.cons rfl (.cons rfl .nil)) ?_
    refine jn_seq (j_seq ?_)
    refine j_seal (rt := rPattern) 180 5 (dropH 180 _) rfl rfl (by rw [(sortK_ok _).2.2]; simp) (dropH_sub 180 _) (dropH_no 180 _) ?_
    refine j_region ?_
    refine jg_adr _ rfl _ rfl rfl (op_move (.base rfl)) ?_
    refine jg_adr _ rfl _ rfl rfl (op_assign (.base rfl)) ?_
    refine jg_nil ?_
    refine jn_keep [0, 4] [100] (.cons rfl (.cons rfl .nil)) (.cons rfl .nil) ?_
    refine jn_seq (j_ret ?_)
    exact jr_finM1 (s0 := 0) Try.results24 (res_tmp rfl) rfl (by rw [List.drop_zero, List.take_of_length_le (by rw [(sortK_ok _).2.2]; exact Nat.le_refl _), sort_prm hn hnd hall]) rfl rfl (Nat.le_refl _) rfl
  · refine jg_adr _ rfl _ rfl rfl (op_extR (.base rfl) rfl) ?_
    refine jg_nil ?_
    refine jn_keep [0, 1, 5, 11, 13] [11, 100, 180] (.cons rfl (.cons rfl (.cons rfl (.cons rfl (.cons rfl .nil))))) (.cons rfl (.cons rfl (.cons rfl .nil))) ?_
    obtain ⟨q, rfl⟩ : ∃ q, x = pc q := ⟨_, (fS_some hxf).2.1⟩
    have hq : imp n S q = true := by have := (fS_some hxf).2.2; rwa [pn_pc] at this
    have hqv := (imp_iff.1 hq).1
    have hqs := vld_small hn hqv
    refine jn_seq (j_seq ?_)
    refine j_cond_t rfl rfl (j_skip (jn_seq (j_block (j_seq ?_))))
    refine j_region ?_
    refine jg_adr _ rfl _ rfl rfl (op_entryK rfl rfl rfl hent) ?_
    refine jg_adr _ rfl _ rfl rfl (op_extR (.base rfl) rfl) ?_
    refine jg_os _ rfl (op_alloc _ z29 rfl rfl rfl) ?_
    refine jg_os _ rfl (op_ostore ty29 (.base rfl) rfl rfl (Lens.id _) (.lit (.base rfl) (pat_lit (pc q)))) ?_
    refine jg_nil ?_
    refine jn_keep [0, 1, 5, 6, 11] [6, 11, 100, 180] (.cons rfl (.cons rfl (.cons rfl (.cons rfl (.cons rfl .nil))))) (.cons rfl (.cons rfl (.cons rfl (.cons rfl .nil)))) ?_
    refine jn_seq (j_seq ?_)
    refine j_region ?_
    refine jg_adr _ rfl _ rfl rfl (op_assign (.base rfl)) ?_
    refine jg_nil ?_
    refine jn_keep [0, 1, 5, 6, 7, 11] [6, 11, 100, 180] (.cons rfl (.cons rfl (.cons rfl (.cons rfl (.cons rfl (.cons rfl .nil)))))) (.cons rfl (.cons rfl (.cons rfl (.cons rfl .nil)))) ?_
    refine jn_seq (j_seq (j_seq ?_))
    refine j_region ?_
    refine jg_adr _ rfl _ rfl rfl (op_move (.base rfl)) ?_
    refine jg_adr _ rfl _ rfl rfl (op_move (.base rfl)) ?_
    refine jg_nil ?_
    refine jn_keep [0, 1, 5, 6, 7, 11, 16, 17] [6, 11, 100, 180] (.cons rfl (.cons rfl (.cons rfl (.cons rfl (.cons rfl (.cons rfl (.cons rfl (.cons rfl .nil)))))))) (.cons rfl (.cons rfl (.cons rfl (.cons rfl .nil)))) ?_
    refine jn_seq (j_block ?_)
    refine j_loopp (ι := Nat) (fun j => ⟨[(0, .both (.mref 100) (.map (some b0))), (1, .raw (.int .i64 ((n : Nat)))), (5, .own 180 rPattern.n 0 (acc).length), (6, .optr 6 rPattern.n 0 0), (7, .raw (.bool (chk n S q j))), (11, itS 11 100 rr bb), (16, .raw (.int .i64 ((n : Nat)))), (17, .raw (.int .i64 ((j : Nat))))], [(100, ⟨rMapK mK42 mE, [(some mobj, n0, fS (imp n S))]⟩), (6, ⟨rPattern, [pc q]⟩), (11, ⟨rObj, [iobj2]⟩), (180, ⟨rPattern, acc⟩)]⟩) (fun j => j ≤ n) (fun j => n - j) 0 (Nat.zero_le _) (fun a w hi => (Sub.inv ⟨(by repeat (first | exact SubS_nil | refine SubS_cons rfl (by first | rfl | (simp; done) | assumption) ?_)), (by repeat (first | exact SubH_nil | refine SubH_cons rfl (by first | rfl | (simp; done) | assumption) ?_))⟩ hi)) ?_
    rintro j hj
    refine j_seq ?_
    refine j_region ?_
    refine jg_adr _ rfl _ rfl rfl (op_lss (.base rfl) (.base rfl)) ?_
    refine jg_nil ?_
    refine jn_keep [0, 1, 5, 6, 7, 11, 16, 17, 18] [6, 11, 100, 180] (.cons rfl (.cons rfl (.cons rfl (.cons rfl (.cons rfl (.cons rfl (.cons rfl (.cons rfl (.cons rfl .nil))))))))) (.cons rfl (.cons rfl (.cons rfl (.cons rfl .nil)))) ?_
    refine jn_seq (j_seq ?_)
    refine j_cond rfl (fun h7 => ?_) (fun h7 => ?_)
    · have h7 : j < n := by simpa using h7
      have h2j : 2 ^ j < 2 ^ 8 := Nat.pow_lt_pow_right (by omega) (by omega)
      rw [show (2 : Nat) ^ 8 = 256 from rfl] at h2j
      have hm1 := anN_le q.1 (2 ^ j)
      have hm2 := anN_le q.2 (2 ^ j)
      refine j_skip (jn_seq (j_seq (j_block (j_seq ?_))))
      refine j_region ?_
      refine jg_adr _ rfl _ rfl rfl (op_move (.base rfl)) ?_
      refine jg_adr _ rfl _ rfl rfl (op_assign (.base rfl)) ?_
      refine jg_nil ?_
      refine jn_keep [0, 1, 5, 6, 7, 8, 11, 16, 17] [6, 11, 100, 180] (.cons rfl (.cons rfl (.cons rfl (.cons rfl (.cons rfl (.cons rfl (.cons rfl (.cons rfl (.cons rfl .nil))))))))) (.cons rfl (.cons rfl (.cons rfl (.cons rfl .nil)))) ?_
      refine jn_seq (j_seq ?_)
      refine j_drawE mo (by kernel_rfl) (
        AE.cons _ _ _ rfl (gh_ga [6] (ga_adr rfl rfl rfl (op_ofield fld29_0 (.base rfl))) (by kernel_rfl)) (
        AE.cons _ _ _ rfl (gh_ga [6] (ga_adr rfl rfl rfl (op_oload ty3 (.base rfl) rfl rfl ln29_0)) (by kernel_rfl)) (
        AE.cons _ _ _ rfl (gh_ga [] (ga_adr rfl rfl rfl (op_move (.base rfl))) (by kernel_rfl)) (
        AE.cons _ _ _ rfl (gh_ga [] (ga_adr rfl rfl rfl (op_shl (.base rfl) (.base rfl) (by omega) (shl1n (by omega)))) (by kernel_rfl)) (
        AE.cons _ _ _ rfl (gh_ga [] (ga_adr rfl rfl rfl (op_andNot (.base rfl) (.base rfl) (anI_nat (n := q.1) (m := 2 ^ j) (by omega) (by omega)))) (by kernel_rfl)) (
        AE.cons _ _ _ rfl (gh_ga [6] (ga_adr rfl rfl rfl (op_ofield fld29_1 (.base rfl))) (by kernel_rfl)) (
        AE.cons _ _ _ rfl (gh_ga [6] (ga_adr rfl rfl rfl (op_oload ty3 (.base rfl) rfl rfl ln29_1)) (by kernel_rfl)) (
        AE.cons _ _ _ rfl (gh_ga [] (ga_adr rfl rfl rfl (op_move (.base rfl))) (by kernel_rfl)) (
        AE.cons _ _ _ rfl (gh_ga [] (ga_adr rfl rfl rfl (op_shl (.base rfl) (.base rfl) (by omega) (shl1n (by omega)))) (by kernel_rfl)) (
        AE.cons _ _ _ rfl (gh_ga [] (ga_adr rfl rfl rfl (op_andNot (.base rfl) (.base rfl) (anI_nat (n := q.2) (m := 2 ^ j) (by omega) (by omega)))) (by kernel_rfl)) (
        AE.cons _ _ _ rfl (gh_ga [] (ga_adr rfl rfl rfl (op_build z29 rfl pl29 (.cons (rt' := (rInt .i64)) rfl ln29_0 (.raw (.base rfl) rfl) (.cons (rt' := (rInt .i64)) rfl ln29_1 (.raw (.base rfl) rfl) .nil)))) (by kernel_rfl)) (
        AE.cons _ _ _ rfl (gh_alloc _ z29 rfl) (
        AE.cons _ _ _ rfl (gh_store ty29 (.base rfl) rfl rfl (Lens.id _) (.tv (.base rfl))) (
        AE.nil)))))))))))))) (by kernel_rfl) ?_
      refine jn_keep [0, 1, 5, 6, 7, 9, 11, 16, 17] [6, 9, 11, 100, 180] (.cons rfl (.cons rfl (.cons rfl (.cons rfl (.cons rfl (.cons rfl (.cons rfl (.cons rfl (.cons rfl .nil))))))))) (.cons rfl (.cons rfl (.cons rfl (.cons rfl (.cons rfl .nil))))) ?_
      refine jn_seq (j_seq ?_)
      refine j_region ?_
      refine jg_adr _ rfl _ rfl rfl (op_oload ty29 (.base rfl) rfl rfl (Lens.id _)) ?_
      refine jg_adr _ rfl _ rfl rfl (op_oload ty29 (.base rfl) rfl rfl (Lens.id _)) ?_
      refine jg_adr _ rfl _ rfl rfl (op_sneq eq29 rfl rfl eg29 (.tv (.base rfl)) (.tv (.base rfl))) ?_
      refine jg_adr _ rfl _ rfl rfl (op_move (.base rfl)) ?_
      refine jg_gd _ _ _ _ _ _ rfl rfl rfl rfl rfl (fun hg => op_move (.b1 rfl)) ?_
      refine jg_gd _ _ _ _ _ _ rfl rfl rfl rfl rfl (fun hg => op_oload ty29 (.base rfl) rfl rfl (Lens.id _)) ?_
      refine jg_gd _ _ _ _ _ _ rfl rfl rfl rfl rfl (fun hg => (show Adr _ _ _ _ (.raw (.bool ((fS (imp n S) (pc (mrg q j))).getD false))) from op_lookupK (K := mK42) (E := mE) Try.underlying42 (.gd rfl hg) rfl (pat_val _) (.tv (.gd rfl hg)) (okP (q := mrg q j) (by show anN q.1 _ < _; omega) (by show anN q.2 _ < _; omega)))) ?_
      refine jg_adr _ rfl _ rfl rfl (op_pick_and (.base rfl) (.base rfl) rfl (by intro h; first | (rw [h]; rfl) | (rw [hg, h]; rfl) | (rw [h, hg]; rfl) | simp_all)) ?_
      refine jg_nil ?_
      refine jn_keep [0, 1, 5, 6, 7, 11, 16, 17, 38] [6, 11, 100, 180] (.cons rfl (.cons rfl (.cons rfl (.cons rfl (.cons rfl (.cons rfl (.cons rfl (.cons rfl (.cons rfl .nil))))))))) (.cons rfl (.cons rfl (.cons rfl (.cons rfl .nil)))) ?_
      refine jn_seq ?_
      refine j_cond rfl (fun h10 => ?_) (fun h10 => ?_)
      · have h10 : ((pc (mrg q j) != pc q) && ((fS (imp n S) (pc (mrg q j))).getD false)) = true := h10
        rw [fS_get, mrg_ne hqv, Bool.and_eq_true] at h10
        have hck : chk n S q (j + 1) = false := by rw [chk_succ, h10.1, h10.2]; simp
        refine j_region ?_
        refine jg_adr _ rfl _ rfl rfl (op_assign (.base rfl)) ?_
        refine jg_nil ?_
        refine jn_keep [0, 1, 5, 6, 7, 11, 16, 17] [6, 11, 100, 180] (.cons rfl (.cons rfl (.cons rfl (.cons rfl (.cons rfl (.cons rfl (.cons rfl (.cons rfl .nil)))))))) (.cons rfl (.cons rfl (.cons rfl (.cons rfl .nil)))) ?_
        refine jn_blk (jn_seq ?_)
        refine j_region ?_
        refine jg_adr _ rfl _ rfl rfl (op_add (.base rfl) (.base rfl) (w64 (by omega))) ?_
        refine jg_adr _ rfl _ rfl rfl (op_move (.base rfl)) ?_
        refine jg_nil ?_
        refine jn_keep [0, 1, 5, 6, 7, 11, 16, 17] [6, 11, 100, 180] (.cons rfl (.cons rfl (.cons rfl (.cons rfl (.cons rfl (.cons rfl (.cons rfl (.cons rfl .nil)))))))) (.cons rfl (.cons rfl (.cons rfl (.cons rfl .nil)))) ?_
        exact jn_loop (fun a w hi => ⟨j + 1, (by omega), (by omega), Sub.inv ⟨(by repeat (first | exact SubS_nil | refine SubS_cons rfl (by first | rfl | (simp; done) | assumption | exact rb hck.symm) ?_)), (by repeat (first | exact SubH_nil | refine SubH_cons rfl (by first | rfl | (simp; done) | assumption) ?_))⟩ hi⟩)
      · have h10 : ((pc (mrg q j) != pc q) && ((fS (imp n S) (pc (mrg q j))).getD false)) = false := h10
        rw [fS_get, mrg_ne hqv] at h10
        have hck : chk n S q (j + 1) = chk n S q j := by rw [chk_succ]; cases h1 : q.1.testBit j <;> cases h2 : imp n S (mrg q j) <;> simp_all
        refine j_skip (jn_blk (jn_seq ?_))
        refine j_region ?_
        refine jg_adr _ rfl _ rfl rfl (op_add (.base rfl) (.base rfl) (w64 (by omega))) ?_
        refine jg_adr _ rfl _ rfl rfl (op_move (.base rfl)) ?_
        refine jg_nil ?_
        refine jn_keep [0, 1, 5, 6, 7, 11, 16, 17] [6, 11, 100, 180] (.cons rfl (.cons rfl (.cons rfl (.cons rfl (.cons rfl (.cons rfl (.cons rfl (.cons rfl .nil)))))))) (.cons rfl (.cons rfl (.cons rfl (.cons rfl .nil)))) ?_
        exact jn_loop (fun a w hi => ⟨j + 1, (by omega), (by omega), Sub.inv ⟨(by repeat (first | exact SubS_nil | refine SubS_cons rfl (by first | rfl | (simp; done) | assumption | exact rb hck.symm) ?_)), (by repeat (first | exact SubH_nil | refine SubH_cons rfl (by first | rfl | (simp; done) | assumption) ?_))⟩ hi⟩)
    · have h7 : ¬ j < n := by simpa using h7
      obtain rfl : n = j := by omega
      refine j_exit (je_seq (je_loop (je_blk (jn_seq (j_seq ?_)))))
      refine j_region ?_
      refine jg_adr _ rfl _ rfl rfl (op_move (.base rfl)) ?_
      refine jg_nil ?_
      refine jn_keep [0, 1, 5, 6, 11, 40] [6, 11, 100, 180] (.cons rfl (.cons rfl (.cons rfl (.cons rfl (.cons rfl (.cons rfl .nil)))))) (.cons rfl (.cons rfl (.cons rfl (.cons rfl .nil)))) ?_
      refine jn_seq ?_
      refine j_cond rfl (fun h13 => ?_) (fun h13 => ?_)
      · have hpA : prm n S q = true := by unfold prm; rw [hq, h13]; rfl
        have hlA : (acc ++ [pc q]).length + cnt2 ≤ n0 := by simp; omega
        refine j_region ?_
        refine jg_adr _ rfl _ rfl rfl (op_move (.base rfl)) ?_
        refine jg_adr _ rfl _ rfl rfl (op_oload ty29 (.base rfl) rfl rfl (Lens.id _)) ?_
        refine jg_adr _ rfl _ rfl rfl (op_bslice (rt := rPattern) Try.underlying25 ty29 z29 rfl (.cons (.tv (.base rfl)) .nil) rfl rfl) ?_
        refine jg_os _ rfl (op_append [0, 1, 11] Try.underlying25 ty29 z29 rfl by29 (.base rfl) rfl (by (try simp); try omega) (.tv (.base rfl)) (by unfold maxLen; (try simp); try omega) (by (try simp); try omega) rfl (.cons rfl (.cons rfl (.cons rfl .nil))) rfl) ?_
        refine jg_adr _ rfl _ rfl rfl (op_assign (.base rfl)) ?_
        refine jg_nil ?_
        refine jn_keep [0, 1, 5, 11] [11, 100, 180] (.cons rfl (.cons rfl (.cons rfl (.cons rfl .nil)))) (.cons rfl (.cons rfl (.cons rfl .nil))) ?_
        refine jn_blk ?_
        first
        | exact jn_loop (fun a w hi => ⟨(iobj2, (fun y => left y && !decide (y = pc q)), cnt2, acc ++ [pc q]), hlt, ⟨hrel2, hlA, nd_new hnd hmem hxl, prm_new hmem hxl hpA⟩, Sub.inv ⟨(by repeat (first | exact SubS_nil | refine SubS_cons rfl (by first | rfl | (simp; done) | assumption | exact ownP (by simp)) ?_)), (by repeat (first | exact SubH_nil | refine SubH_cons rfl (by first | rfl | (simp; done) | assumption | exact congrArg (HB.mk rPattern) row_end) ?_))⟩ hi⟩)
        | exact jn_loop (fun a w hi => ⟨(iobj2, (fun y => left y && !decide (y = pc q)), cnt2, acc), hlt, ⟨hrel2, (by omega), hnd, prm_old hmem hxl hpB⟩, Sub.inv ⟨(by repeat (first | exact SubS_nil | refine SubS_cons rfl (by first | rfl | (simp; done) | assumption) ?_)), (by repeat (first | exact SubH_nil | refine SubH_cons rfl (by first | rfl | (simp; done) | assumption) ?_))⟩ hi⟩)
      · have hpB : prm n S q = false := by unfold prm; rw [hq, h13]; rfl
        refine j_skip (jn_blk ?_)
        first
        | exact jn_loop (fun a w hi => ⟨(iobj2, (fun y => left y && !decide (y = pc q)), cnt2, acc ++ [pc q]), hlt, ⟨hrel2, hlA, nd_new hnd hmem hxl, prm_new hmem hxl hpA⟩, Sub.inv ⟨(by repeat (first | exact SubS_nil | refine SubS_cons rfl (by first | rfl | (simp; done) | assumption | exact ownP (by simp)) ?_)), (by repeat (first | exact SubH_nil | refine SubH_cons rfl (by first | rfl | (simp; done) | assumption | exact congrArg (HB.mk rPattern) row_end) ?_))⟩ hi⟩)
        | exact jn_loop (fun a w hi => ⟨(iobj2, (fun y => left y && !decide (y = pc q)), cnt2, acc), hlt, ⟨hrel2, (by omega), hnd, prm_old hmem hxl hpB⟩, Sub.inv ⟨(by repeat (first | exact SubS_nil | refine SubS_cons rfl (by first | rfl | (simp; done) | assumption) ?_)), (by repeat (first | exact SubH_nil | refine SubH_cons rfl (by first | rfl | (simp; done) | assumption) ?_))⟩ hi⟩)

end Go.Proofs.Ytmdhmgngomlheaa
