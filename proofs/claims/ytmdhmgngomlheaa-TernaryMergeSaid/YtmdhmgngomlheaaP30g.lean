import Derived.Test.YtmdhmgngomlheaaP30f
namespace Go.Proofs.Ytmdhmgngomlheaa
open Go.Eng
set_option maxRecDepth 100000
set_option maxHeartbeats 4000000
set_option linter.unusedVariables false
set_option linter.unusedSimpArgs false

noncomputable abbrev mapHB (o : Option Obj) (c : Nat) (A : NP → Bool) : HB := ⟨rMapK mK42 mE, [(o, c, fS A)]⟩
theorem mapHB_eq {o : Option Obj} {c : Nat} {A B : NP → Bool} (h : ∀ q, A q = B q) : mapHB o c A = mapHB o c B := by rw [show A = B from funext h]
theorem okP {q : NP} (h1 : q.1 < 9223372036854775808) (h2 : q.2 < 9223372036854775808) : mK42.ok (pc q) := by
  constructor <;> (simp [pc, Lit.wf, IntKind.min, IntKind.max, IntKind.signed, IntKind.bits]; omega)
theorem pat_lit (p : TPattern) (w : World) (ok : Ok) : rPattern.val w ok (mK42.enc p) p := ⟨_, ⟨[.int .i64 p.1], [.int .i64 p.2], rfl, rfl, rfl⟩, rfl⟩
theorem merge_at {p q r : TPattern} (h : mergeF p q = (r, true)) : Ct Try.prog 12 [.tv rPattern p, .tv rPattern q] (.tup2 (.tv rPattern r) (.raw (.bool true))) := by
  have := merge_ok p q
  rw [h] at this; exact this
theorem shl1n {j : Nat} (h : j ≤ 62) : IntKind.i64.wrap (1 * 2 ^ (min ((j : Nat) : Int).toNat IntKind.i64.bits)) = ((2 ^ j : Nat) : Int) := by
  rw [Int.toNat_natCast, Nat.min_eq_left (by simp [IntKind.bits]; omega), Int.one_mul, show ((2 : Int) ^ j) = ((2 ^ j : Nat) : Int) by simp]
  have : 2 ^ j ≤ 2 ^ 62 := Nat.pow_le_pow_right (by omega) h
  generalize 2 ^ j = z at *
  exact w64 (by omega)
theorem pow9 {k n : Nat} (h : k ≤ n + 1) (hn : n ≤ 8) : ∃ M, 300 * 9 ^ k = M ∧ M ≤ 116226146700 :=
  ⟨_, rfl, by have := Nat.pow_le_pow_right (n := 9) (by omega) (show k ≤ 9 by omega); omega⟩
theorem vld_small {n : Nat} {q : NP} (hn : n ≤ 8) (h : vld n q = true) : q.1 < 256 ∧ q.2 < 256 := by
  have h8 : 2 ^ n ≤ 2 ^ 8 := Nat.pow_le_pow_right (by omega) hn
  rw [show (2 : Nat) ^ 8 = 256 from rfl] at h8
  have := (vld_iff.1 h).1
  have := vld_lt h
  omega
theorem mem_new {f : TPattern → Option Bool} {left : TPattern → Bool} {acc : List TPattern} {x : TPattern} (hmem : ∀ x, x ∈ acc ↔ (f x).isSome = true ∧ left x = false) (hx : left x = true) (hf : (f x).isSome = true) (y : TPattern) : y ∈ acc ++ [x] ↔ (f y).isSome = true ∧ (left y && !decide (y = x)) = false := by
  simp only [List.mem_append, List.mem_singleton, hmem]
  by_cases e : y = x
  · subst e; simp [hx, hf]
  · rw [show (left y && !decide (y = x)) = left y by simp [e]]; simp only [e, or_false]
theorem mem_none (f : TPattern → Option Bool) (x : TPattern) : x ∈ ([] : List TPattern) ↔ (f x).isSome = true ∧ (f x).isSome = false := ⟨fun h => (by simp at h), fun h => by have h1 := h.1; rw [h.2] at h1; cases h1⟩
theorem dn_step {a : NP} {j n : Nat} {S : Nat → Bool} {nx nx' : List NP} (h : ∀ j0, j0 < j → imp n S (prt a j0) = true → mrg a j0 ∈ nx) (hs : ∀ q ∈ nx, q ∈ nx') (hj : imp n S (prt a j) = true → mrg a j ∈ nx') : ∀ j0, j0 < j + 1 → imp n S (prt a j0) = true → mrg a j0 ∈ nx' := fun j0 h0 hi => by
  rcases Nat.lt_succ_iff_lt_or_eq.1 h0 with q | q
  · exact hs _ (h j0 q hi)
  · subst q; exact hj hi
theorem dn_row {lv : List NP} {i n : Nat} {a : NP} {S : Nat → Bool} {nx : List NP} (h8 : i < lv.length) (ha : lv[i] = a) (h : ∀ a ∈ lv.take i, ∀ j, j < n → imp n S (prt a j) = true → mrg a j ∈ nx) (hj : ∀ j, j < n → imp n S (prt a j) = true → mrg a j ∈ nx) : ∀ a ∈ lv.take (i + 1), ∀ j, j < n → imp n S (prt a j) = true → mrg a j ∈ nx := fun a0 h0 j0 hj0 hi0 => by
  rw [List.take_succ_eq_append_getElem h8, ha] at h0
  rcases List.mem_append.1 h0 with q | q
  · exact h a0 q j0 hj0 hi0
  · rw [List.mem_singleton] at q; subst q; exact hj j0 hj0 hi0
theorem pat_row {q : NP} {l : List NP} : (l ++ [q]).map pc = l.map pc ++ [pc q] := by simp
theorem ownP {nm a b : Nat} (h : a = b) : SV.own nm rPattern.n 0 a = SV.own nm rPattern.n 0 b := by rw [h]
theorem cur_imp {n k : Nat} {S : Nat → Bool} {nx : List NP} {q : NP} (h1 : ∀ q ∈ nx, lvl n S (k + 1) q = true) (h : (upTo n S k q || nx.contains q) = true) : imp n S q = true := by
  rw [Bool.or_eq_true] at h
  rcases h with h | h
  · unfold upTo at h; simp at h; exact h.1
  · have := h1 q (by simpa using h); unfold lvl at this; simp at this; exact this.1
theorem imp_cur {n k : Nat} {S : Nat → Bool} {nx : List NP} {a : NP} {j : Nat} (ha : lvl n S k a = true) (h : (upTo n S k (prt a j) || nx.contains (prt a j)) = false) : imp n S (prt a j) = false := by
  cases hi : imp n S (prt a j) with
  | false => rfl
  | true =>
    rw [Bool.or_eq_false_iff] at h
    unfold upTo lvl at *
    rw [hi] at h
    simp only [Bool.true_and, decide_eq_false_iff_not, Bool.and_eq_true, decide_eq_true_eq] at h ha
    exact absurd (show n ≤ popN 8 (prt a j).1 + k by show n ≤ popN 8 a.1 + k; omega) h.1
theorem mrg_cur {n k : Nat} {S : Nat → Bool} {nx : List NP} {q : NP} (hl : lvl n S (k + 1) q = true) (h : (upTo n S k q || nx.contains q) = true) : q ∈ nx := by
  rw [Bool.or_eq_true] at h
  rcases h with h | h
  · unfold upTo lvl at *; simp at h hl; omega
  · simpa using h
theorem addMerged_ok (n : Nat) (hn : n ≤ 8) (S : Nat → Bool) (n0 : Nat) (hn0 : n0 ≤ 300) : CtM Try.prog 23 mK42 mE n0 116226146700 (fS (upTo n S 0)) (fS (imp n S)) [.raw (.int .i64 (n : Nat))] (.raw (.tuple #[])) := by
  refine ctM_intro Try.func23 rfl rfl Try.ntmps23 rfl rfl ?_
  intro w0 ok0 b0
  refine j_seq ?_
  refine j_region ?_
  refine jg_adr _ rfl _ rfl rfl (op_assign (.base rfl)) ?_
  refine jg_nil ?_
  refine jn_keep [0, 1, 4] [100] (.cons rfl (.cons rfl (.cons rfl .nil))) (.cons rfl .nil) ?_
  refine jn_seq (j_seq (j_seq ?_))
  refine j_region ?_
  refine jg_adr _ rfl _ rfl rfl (op_move (.b1 rfl)) ?_
  refine jg_rangeK (K := mK42) (E := mE) Try.underlying42 (.base rfl) rfl rfl rfl rfl ?_
  intro mobj iobj rr bb cnt hcnt hrel
  refine jg_nil ?_
  refine jn_keep [0, 1, 4, 14] [14, 100] (.cons rfl (.cons rfl (.cons rfl (.cons rfl .nil)))) (.cons rfl (.cons rfl .nil)) ?_
  refine jn_seq (j_block ?_)
  refine j_vac 180 4 rPattern rfl rfl rfl ?_
  refine j_loopp (ι := Obj × (TPattern → Bool) × Nat × List TPattern) (fun (io, left, cnt, acc) => ⟨[(0, .both (.mref 100) (.map (some b0))), (1, .raw (.int .i64 ((n : Nat)))), (4, .own 180 rPattern.n 0 (acc).length), (14, itS 14 100 rr bb)], [(100, ⟨rMapK mK42 mE, [(some mobj, n0, fS (upTo n S 0))]⟩), (14, ⟨rObj, [io]⟩), (180, ⟨rPattern, acc⟩)]⟩) (fun (io, left, cnt, acc) => RngRel mK42 mE bb mobj io n0 (fS (upTo n S 0)) left cnt ∧ acc.length + cnt ≤ n0 ∧ (∀ x, x ∈ acc ↔ (fS (upTo n S 0) x).isSome = true ∧ left x = false)) (fun (io, left, cnt, acc) => cnt) (iobj, (fun x => (fS (upTo n S 0) x).isSome), cnt, []) (⟨hrel, by simpa using hcnt, mem_none _⟩) (fun a w hi => (Sub.inv ⟨(by repeat (first | exact SubS_nil | refine SubS_cons rfl (by first | rfl | (simp; done) | assumption) ?_)), (by repeat (first | exact SubH_nil | refine SubH_cons rfl (by first | rfl | (simp; done) | assumption) ?_))⟩ hi)) ?_
  rintro ⟨io, left, cnt, acc⟩ ⟨hrel, hlen, hmem⟩
  refine j_seq ?_
  refine j_region ?_
  refine jg_nextK (K := mK42) (E := mE) rfl rfl rfl hrel rfl (fun hdone => ?_) (fun x v iobj2 cnt2 hxl hxf hrel2 hlt hent => ?_)
  · refine jg_adr _ rfl _ rfl rfl (op_extR (.base rfl) rfl) ?_
    refine jg_nil ?_
    refine jn_keep [0, 1, 4, 14, 16] [14, 100, 180] (.cons rfl (.cons rfl (.cons rfl (.cons rfl (.cons rfl .nil))))) (.cons rfl (.cons rfl (.cons rfl .nil))) ?_
    have hacc : acc = (acc.map pn).map pc := by
      rw [List.map_map]; refine ((List.map_congr_left fun x hx => ?_).trans (List.map_id _)).symm
      obtain ⟨v, hv⟩ := Option.isSome_iff_exists.1 ((hmem x).1 hx).1
      exact (fS_some hv).2.1.symm
    have hlv : ∀ q, q ∈ acc.map pn ↔ lvl n S 0 q = true := fun q => by
      rw [show lvl n S 0 q = upTo n S 0 q from by unfold lvl upTo; cases hi : imp n S q with | false => rfl | true => (have h4 := (vld_iff.1 (imp_iff.1 hi).1).1; have h5 := pop8 hn h4; have h6 := popN_le n q.1; simp only [Bool.true_and]; rw [Bool.eq_iff_iff, decide_eq_true_eq, decide_eq_true_eq]; omega)]
      rw [List.mem_map]; constructor
      · rintro ⟨x, hx, rfl⟩
        obtain ⟨v, hv⟩ := Option.isSome_iff_exists.1 ((hmem x).1 hx).1
        exact (fS_some hv).2.2
      · intro hq
        exact ⟨pc q, (hmem _).2 ⟨by rw [fS_isSome]; exact hq, hdone _⟩, pn_pc q⟩
    refine jn_seal (rt := rPattern) 180 4 (dropH 180 _) rfl rfl (by simp) (dropH_sub 180 _) (dropH_no 180 _) ?_
    refine jn_seq (j_seq ?_)
    refine j_cond_f rfl rfl (j_exit (je_seq (je_loop (je_blk (jn_seq (j_block ?_))))))
    refine j_loopp (ι := Nat × List NP × Nat × Option Obj) (fun (k, lv, c, o) => ⟨[(0, .both (.mref 100) (.map (some b0))), (1, .raw (.int .i64 ((n : Nat)))), (4, .tv (rSlice rPattern) (lv.map pc))], [(100, mapHB o c (upTo n S k))]⟩) (fun (k, lv, c, o) => k ≤ n + 1 ∧ (∀ q, q ∈ lv ↔ lvl n S k q = true) ∧ lv.length ≤ 300 * 9 ^ k ∧ c ≤ 300 * 9 ^ k) (fun (k, lv, c, o) => n + 1 - k) (0, acc.map pn, n0, some mobj) (⟨Nat.zero_le _, hlv, by simp; omega, by omega⟩) (fun a w hi => Sub.inv ⟨(by repeat (first | exact SubS_nil | refine SubS_cons rfl (by first | rfl | (simp; done) | assumption | (refine congrArg (SV.tv (rSlice rPattern)) ?_; rw [List.drop_zero, List.take_length]; exact hacc)) ?_)), (by repeat (first | exact SubH_nil | refine SubH_cons rfl (by first | rfl | (simp; done) | assumption) ?_))⟩ hi) ?_
    rintro ⟨k, lv, c, o⟩ ⟨hk, hlv, hll, hcl⟩
    obtain ⟨M, hMe, hM⟩ := pow9 hk hn
    rw [hMe] at hll hcl
    refine j_seq (j_seq ?_)
    refine j_region ?_
    refine jg_adr _ rfl _ rfl rfl (op_move (.base rfl)) ?_
    refine jg_adr _ rfl _ rfl rfl (op_len Try.underlying25 (.base rfl)) ?_
    refine jg_adr _ rfl _ rfl rfl (op_gtr (.base rfl) (.base rfl)) ?_
    refine jg_nil ?_
    refine jn_keep [0, 1, 4, 25] [100] (.cons rfl (.cons rfl (.cons rfl (.cons rfl .nil)))) (.cons rfl .nil) ?_
    refine jn_seq ?_
    refine j_cond rfl (fun h5 => ?_) (fun h5 => ?_)
    · have h5 : 0 < lv.length := by simpa using h5
      have hkn : k ≤ n := by
        have q1 := (hlv lv[0]).1 (List.getElem_mem h5)
        unfold lvl at q1; simp at q1; omega
      refine j_skip (jn_seq (j_block (j_seq ?_)))
      refine j_region ?_
      refine jg_adr _ rfl _ rfl rfl (op_assign (.base rfl)) ?_
      refine jg_nil ?_
      refine jn_keep [0, 1, 4, 6] [100] (.cons rfl (.cons rfl (.cons rfl (.cons rfl .nil)))) (.cons rfl .nil) ?_
      refine jn_seq (j_seq (j_seq ?_))
      refine j_region ?_
      refine jg_adr _ rfl _ rfl rfl (op_move (.base rfl)) ?_
      refine jg_adr _ rfl _ rfl rfl (op_len Try.underlying25 (.base rfl)) ?_
      refine jg_adr _ rfl _ rfl rfl (op_move (.base rfl)) ?_
      refine jg_nil ?_
      refine jn_keep [0, 1, 6, 26, 27, 28] [100] (.cons rfl (.cons rfl (.cons rfl (.cons rfl (.cons rfl (.cons rfl .nil)))))) (.cons rfl .nil) ?_
      refine jn_seq (j_block ?_)
      refine j_vac 181 6 rPattern rfl rfl rfl ?_
      refine j_loopp (ι := Nat × List NP × Nat × Option Obj) (fun (i, nx, c2, o2) => ⟨[(0, .both (.mref 100) (.map (some b0))), (1, .raw (.int .i64 ((n : Nat)))), (6, .own 181 rPattern.n 0 (nx.map pc).length), (26, .tv (rSlice rPattern) (lv.map pc)), (27, .raw (.int .i64 (((lv.map pc).length : Int)))), (28, .raw (.int .i64 ((i : Nat))))], [(100, mapHB o2 c2 (fun q => upTo n S k q || (nx).contains q)), (181, ⟨rPattern, nx.map pc⟩)]⟩) (fun (i, nx, c2, o2) => i ≤ lv.length ∧ (∀ q ∈ nx, lvl n S (k + 1) q = true) ∧ (∀ u ∈ lv.take i, ∀ v, v < n → imp n S (prt u v) = true → mrg u v ∈ nx) ∧ nx.length ≤ i * 8 ∧ c2 ≤ c + nx.length) (fun (i, nx, c2, o2) => lv.length - i) (0, [], c, o) (⟨Nat.zero_le _, by simp, by simp, by simp, by simp⟩) (fun a w hi => Sub.inv ⟨(by repeat (first | exact SubS_nil | refine SubS_cons rfl (by first | rfl | (simp; done) | assumption) ?_)), (by repeat (first | exact SubH_nil | refine SubH_cons rfl (by first | rfl | (simp; done) | assumption | exact mapHB_eq (fun q => by simp)) ?_))⟩ hi) ?_
      rintro ⟨i, nx, c2, o2⟩ ⟨hi1, hnx, hdn, hnl, hc2⟩
      refine j_seq ?_
      refine j_region ?_
      refine jg_adr _ rfl _ rfl rfl (op_lss (.base rfl) (.base rfl)) ?_
      refine jg_nil ?_
      refine jn_keep [0, 1, 6, 26, 27, 28, 29] [100, 181] (.cons rfl (.cons rfl (.cons rfl (.cons rfl (.cons rfl (.cons rfl (.cons rfl .nil))))))) (.cons rfl (.cons rfl .nil)) ?_
      refine jn_seq (j_seq ?_)
      refine j_cond rfl (fun h8 => ?_) (fun h8 => ?_)
      · have h8 : i < lv.length := by simpa using h8
        obtain ⟨a, ha⟩ : ∃ a, lv[i] = a := ⟨_, rfl⟩
        have hal : lvl n S k a = true := (hlv a).1 (ha ▸ List.getElem_mem h8)
        have hai : imp n S a = true := by unfold lvl at hal; simp at hal; exact hal.1
        have hav := (imp_iff.1 hai).1
        have has := vld_small hn hav
        refine j_skip (jn_seq (j_seq (j_block (j_seq ?_))))
        refine j_region ?_
        refine jg_adr _ rfl _ rfl rfl (op_index Try.underlying25 ty29 (.base rfl) (.base rfl) rfl (List.getElem?_eq_getElem (by first | omega | (simp; done) | (simp; omega) | (simp at hg; omega)))) ?_
        refine jg_adr _ rfl _ rfl rfl (op_load ty29 (.base rfl)) ?_
        refine jg_os _ rfl (op_alloc _ z29 rfl rfl rfl) ?_
        refine jg_os _ rfl (op_ostore ty29 (.base rfl) rfl rfl (Lens.id _) (.tv (.base rfl))) ?_
        refine jg_nil ?_
        rw [List.getElem_map, ha]
        refine jn_keep [0, 1, 6, 8, 26, 27, 28] [8, 100, 181] (.cons rfl (.cons rfl (.cons rfl (.cons rfl (.cons rfl (.cons rfl (.cons rfl .nil))))))) (.cons rfl (.cons rfl (.cons rfl .nil))) ?_
        refine jn_seq (j_seq ?_)
        refine j_region ?_
        refine jg_adr _ rfl _ rfl rfl (op_move (.base rfl)) ?_
        refine jg_adr _ rfl _ rfl rfl (op_move (.base rfl)) ?_
        refine jg_nil ?_
        refine jn_keep [0, 1, 6, 8, 26, 27, 28, 32, 33] [8, 100, 181] (.cons rfl (.cons rfl (.cons rfl (.cons rfl (.cons rfl (.cons rfl (.cons rfl (.cons rfl (.cons rfl .nil))))))))) (.cons rfl (.cons rfl (.cons rfl .nil))) ?_
        refine jn_seq (j_block ?_)
        refine j_loopp (ι := Nat × List NP × Nat × Option Obj) (fun (j, nx2, c3, o3) => ⟨[(0, .both (.mref 100) (.map (some b0))), (1, .raw (.int .i64 ((n : Nat)))), (6, .own 181 rPattern.n 0 (nx2.map pc).length), (8, .optr 8 rPattern.n 0 0), (26, .tv (rSlice rPattern) (lv.map pc)), (27, .raw (.int .i64 (((lv.map pc).length : Int)))), (28, .raw (.int .i64 ((i : Nat)))), (32, .raw (.int .i64 ((n : Nat)))), (33, .raw (.int .i64 ((j : Nat))))], [(100, mapHB o3 c3 (fun q => upTo n S k q || (nx2).contains q)), (8, ⟨rPattern, [pc a]⟩), (181, ⟨rPattern, nx2.map pc⟩)]⟩) (fun (j, nx2, c3, o3) => j ≤ n ∧ (∀ q ∈ nx2, lvl n S (k + 1) q = true) ∧ (∀ u ∈ lv.take i, ∀ v, v < n → imp n S (prt u v) = true → mrg u v ∈ nx2) ∧ (∀ j0, j0 < j → imp n S (prt a j0) = true → mrg a j0 ∈ nx2) ∧ nx2.length ≤ i * 8 + j ∧ c3 ≤ c + nx2.length) (fun (j, nx2, c3, o3) => n - j) (0, nx, c2, o2) (⟨Nat.zero_le _, hnx, hdn, by simp, by omega, hc2⟩) (fun a w hi => (Sub.inv ⟨(by repeat (first | exact SubS_nil | refine SubS_cons rfl (by first | rfl | (simp; done) | assumption) ?_)), (by repeat (first | exact SubH_nil | refine SubH_cons rfl (by first | rfl | (simp; done) | assumption) ?_))⟩ hi)) ?_
        rintro ⟨j, nx2, c3, o3⟩ ⟨hj1, hnx2, hdn2, hdj, hnl2, hc3⟩
        refine j_seq ?_
        refine j_region ?_
        refine jg_adr _ rfl _ rfl rfl (op_lss (.base rfl) (.base rfl)) ?_
        refine jg_nil ?_
        refine jn_keep [0, 1, 6, 8, 26, 27, 28, 32, 33, 34] [8, 100, 181] (.cons rfl (.cons rfl (.cons rfl (.cons rfl (.cons rfl (.cons rfl (.cons rfl (.cons rfl (.cons rfl (.cons rfl .nil)))))))))) (.cons rfl (.cons rfl (.cons rfl .nil))) ?_
        refine jn_seq (j_seq ?_)
        refine j_cond rfl (fun h11 => ?_) (fun h11 => ?_)
        · have h11 : j < n := by simpa using h11
          have h2j : 2 ^ j < 2 ^ 8 := Nat.pow_lt_pow_right (by omega) (by omega)
          rw [show (2 : Nat) ^ 8 = 256 from rfl] at h2j
          have hxl : a.2 ^^^ 2 ^ j < 2 ^ 8 := Nat.xor_lt_two_pow has.2 h2j
          rw [show (2 : Nat) ^ 8 = 256 from rfl] at hxl
          refine j_skip (jn_seq (j_seq (j_block (j_seq ?_))))
          refine j_region ?_
          refine jg_adr _ rfl _ rfl rfl (op_move (.base rfl)) ?_
          refine jg_adr _ rfl _ rfl rfl (op_assign (.base rfl)) ?_
          refine jg_nil ?_
          refine jn_keep [0, 1, 6, 8, 9, 26, 27, 28, 32, 33] [8, 100, 181] (.cons rfl (.cons rfl (.cons rfl (.cons rfl (.cons rfl (.cons rfl (.cons rfl (.cons rfl (.cons rfl (.cons rfl .nil)))))))))) (.cons rfl (.cons rfl (.cons rfl .nil))) ?_
          refine jn_seq (j_seq ?_)
          refine j_drawE mo (by kernel_rfl) (
            AE.cons _ _ _ rfl (gh_ga [8] (ga_adr rfl rfl rfl (op_ofield fld29_0 (.base rfl))) (by kernel_rfl)) (
            AE.cons _ _ _ rfl (gh_ga [8] (ga_adr rfl rfl rfl (op_oload ty3 (.base rfl) rfl rfl ln29_0)) (by kernel_rfl)) (
            AE.cons _ _ _ rfl (gh_ga [8] (ga_adr rfl rfl rfl (op_ofield fld29_1 (.base rfl))) (by kernel_rfl)) (
            AE.cons _ _ _ rfl (gh_ga [8] (ga_adr rfl rfl rfl (op_oload ty3 (.base rfl) rfl rfl ln29_1)) (by kernel_rfl)) (
            AE.cons _ _ _ rfl (gh_ga [] (ga_adr rfl rfl rfl (op_move (.base rfl))) (by kernel_rfl)) (
            AE.cons _ _ _ rfl (gh_ga [] (ga_adr rfl rfl rfl (op_shl (.base rfl) (.base rfl) (by omega) (shl1n (by omega)))) (by kernel_rfl)) (
            AE.cons _ _ _ rfl (gh_ga [] (ga_adr rfl rfl rfl (op_xor (.base rfl) (.base rfl) (xorI_nat (n := a.2) (m := 2 ^ j) (by omega) (by omega)))) (by kernel_rfl)) (
            AE.cons _ _ _ rfl (gh_ga [] (ga_adr rfl rfl rfl (op_build z29 rfl pl29 (.cons (rt' := (rInt .i64)) rfl ln29_0 (.raw (.base rfl) rfl) (.cons (rt' := (rInt .i64)) rfl ln29_1 (.raw (.base rfl) rfl) .nil)))) (by kernel_rfl)) (
            AE.cons _ _ _ rfl (gh_alloc _ z29 rfl) (
            AE.cons _ _ _ rfl (gh_store ty29 (.base rfl) rfl rfl (Lens.id _) (.tv (.base rfl))) (
            AE.nil))))))))))) (by kernel_rfl) ?_
          refine jn_keep [0, 1, 6, 8, 10, 26, 27, 28, 32, 33] [8, 10, 100, 181] (.cons rfl (.cons rfl (.cons rfl (.cons rfl (.cons rfl (.cons rfl (.cons rfl (.cons rfl (.cons rfl (.cons rfl .nil)))))))))) (.cons rfl (.cons rfl (.cons rfl (.cons rfl .nil)))) ?_
          refine jn_seq (j_seq (j_seq ?_))
          refine j_region ?_
          refine jg_adr _ rfl _ rfl rfl (op_move (.b1 rfl)) ?_
          refine jg_adr _ rfl _ rfl rfl (op_oload ty29 (.base rfl) rfl rfl (Lens.id _)) ?_
          refine jg_adr _ rfl _ rfl rfl ((show Adr _ _ _ _ (.raw (.bool ((fS (fun q => upTo n S k q || (nx2).contains q) (pc (prt a j))).getD false))) from op_lookupK (K := mK42) (E := mE) Try.underlying42 (.base rfl) rfl (pat_val _) (.tv (.base rfl)) (okP (q := prt a j) (by show a.1 < _; omega) (by show a.2 ^^^ 2 ^ j < _; omega)))) ?_
          refine jg_adr _ rfl _ rfl rfl (op_not (.base rfl)) ?_
          refine jg_nil ?_
          refine jn_keep [0, 1, 6, 8, 10, 26, 27, 28, 32, 33, 47] [8, 10, 100, 181] (.cons rfl (.cons rfl (.cons rfl (.cons rfl (.cons rfl (.cons rfl (.cons rfl (.cons rfl (.cons rfl (.cons rfl (.cons rfl .nil))))))))))) (.cons rfl (.cons rfl (.cons rfl (.cons rfl .nil)))) ?_
          refine jn_seq ?_
          refine j_cond rfl (fun h14 => ?_) (fun h14 => ?_)
          · rw [fS_get, Bool.not_eq_true'] at h14
            have himp := imp_cur hal h14
            have hdjA := dn_step hdj (fun _ h => h) (fun h => absurd (himp.symm.trans h) (by simp))
            refine j_exit (je_seq (je_blk (jn_seq ?_)))
            refine j_region ?_
            refine jg_adr _ rfl _ rfl rfl (op_add (.base rfl) (.base rfl) (w64 (by omega))) ?_
            refine jg_adr _ rfl _ rfl rfl (op_move (.base rfl)) ?_
            refine jg_nil ?_
            refine jn_keep [0, 1, 6, 8, 26, 27, 28, 32, 33] [8, 100, 181] (.cons rfl (.cons rfl (.cons rfl (.cons rfl (.cons rfl (.cons rfl (.cons rfl (.cons rfl (.cons rfl .nil))))))))) (.cons rfl (.cons rfl (.cons rfl .nil))) ?_
            first
            | exact jn_loop (fun a0 w hi => ⟨(j + 1, nx2, c3, o3), (show n - (j + 1) < n - j by omega), ⟨by omega, hnx2, hdn2, hdjA, by omega, by omega⟩, Sub.inv ⟨(by repeat (first | exact SubS_nil | refine SubS_cons rfl (by first | rfl | (simp; done) | assumption) ?_)), (by repeat (first | exact SubH_nil | refine SubH_cons rfl (by first | rfl | (simp; done) | assumption) ?_))⟩ hi⟩)
            | exact jn_loop (fun a0 w hi => ⟨(j + 1, nx2 ++ [mrg a j], c3 + 1, none), (show n - (j + 1) < n - j by omega), ⟨by omega, hnxB, hdnB, hdjB, hlB.1, hlB.2⟩, Sub.inv ⟨(by repeat (first | exact SubS_nil | refine SubS_cons rfl (by first | rfl | (simp; done) | assumption | exact ownP (by simp)) ?_)), (by repeat (first | exact SubH_nil | refine SubH_cons rfl (by first | rfl | (simp; done) | assumption | (refine (congrArg (HB.mk (rMapK mK42 mE)) ?_); rw [hupd]) | (refine congrArg (HB.mk rPattern) ?_; rw [pat_row, List.drop_zero, List.take_of_length_le (by simp)])) ?_))⟩ hi⟩)
          · rw [fS_get, Bool.not_eq_false'] at h14
            have himp := cur_imp hnx2 h14
            have hmg := merge_nat hn h11 hav (mrg_imp hai himp).2
            have hml := mrg_lvl h11 hn hal himp
            have hms := vld_small hn (imp_iff.1 (mrg_imp hai himp).1).1
            refine j_skip (jn_seq (j_seq ?_))
            refine j_region ?_
            refine jg_adr _ rfl _ rfl rfl (op_oload ty29 (.base rfl) rfl rfl (Lens.id _)) ?_
            refine jg_adr _ rfl _ rfl rfl (op_oload ty29 (.base rfl) rfl rfl (Lens.id _)) ?_
            refine jg_adr _ rfl _ rfl rfl (op_call (merge_at hmg) (.cons (.base rfl) (.cons (.base rfl) .nil)) rfl rfl) ?_
            refine jg_adr _ rfl _ rfl rfl (op_move (.base rfl)) ?_
            refine jg_adr _ rfl _ rfl rfl (op_ext20 (.base rfl)) ?_
            refine jg_adr _ rfl _ rfl rfl (op_ext21 (.base rfl)) ?_
            refine jg_os _ rfl (op_alloc _ z29 rfl rfl rfl) ?_
            refine jg_os _ rfl (op_ostore ty29 (.base rfl) rfl rfl (Lens.id _) (.tv (.base rfl))) ?_
            refine jg_adr _ rfl _ rfl rfl (op_assign (.base rfl)) ?_
            refine jg_nil ?_
            refine jn_keep [0, 1, 6, 8, 11, 12, 26, 27, 28, 32, 33] [8, 11, 100, 181] (.cons rfl (.cons rfl (.cons rfl (.cons rfl (.cons rfl (.cons rfl (.cons rfl (.cons rfl (.cons rfl (.cons rfl (.cons rfl .nil))))))))))) (.cons rfl (.cons rfl (.cons rfl (.cons rfl .nil)))) ?_
            refine jn_seq (j_seq ?_)
            refine j_region ?_
            refine jg_adr _ rfl _ rfl rfl (op_move (.base rfl)) ?_
            refine jg_adr _ rfl _ rfl rfl (op_move (.base rfl)) ?_
            refine jg_gd _ _ _ _ _ _ rfl rfl rfl rfl rfl (fun hg => op_move (.b1 rfl)) ?_
            refine jg_gd _ _ _ _ _ _ rfl rfl rfl rfl rfl (fun hg => op_oload ty29 (.base rfl) rfl rfl (Lens.id _)) ?_
            refine jg_gd _ _ _ _ _ _ rfl rfl rfl rfl rfl (fun hg => (show Adr _ _ _ _ (.raw (.bool ((fS (fun q => upTo n S k q || (nx2).contains q) (pc (mrg a j))).getD false))) from op_lookupK (K := mK42) (E := mE) Try.underlying42 (.gd rfl hg) rfl (pat_val _) (.tv (.gd rfl hg)) (okP (by omega) (by omega)))) ?_
            refine jg_gd _ _ _ _ _ _ rfl rfl rfl rfl rfl (fun hg => op_not (.gd rfl hg)) ?_
            refine jg_adr _ rfl _ rfl rfl (op_pick_and (.base rfl) (.base rfl) rfl (by intro h; first | (rw [h]; rfl) | (rw [hg, h]; rfl) | (rw [h, hg]; rfl) | simp_all)) ?_
            refine jg_nil ?_
            refine jn_keep [0, 1, 6, 8, 11, 26, 27, 28, 32, 33, 60] [8, 11, 100, 181] (.cons rfl (.cons rfl (.cons rfl (.cons rfl (.cons rfl (.cons rfl (.cons rfl (.cons rfl (.cons rfl (.cons rfl (.cons rfl .nil))))))))))) (.cons rfl (.cons rfl (.cons rfl (.cons rfl .nil)))) ?_
            refine jn_seq ?_
            refine j_cond rfl (fun h16 => ?_) (fun h16 => ?_)
            · rw [fS_get] at h16
              simp only [Bool.true_and, Bool.not_eq_true'] at h16
              have hupd := fS_upd (fun q => upTo n S k q || (nx2).contains q) (mrg a j)
              rw [show (fun r => (fun q => upTo n S k q || (nx2).contains q) r || decide (r = mrg a j)) = (fun q => upTo n S k q || ((nx2 ++ [mrg a j])).contains q) from funext fun r => by simp [Bool.or_assoc]] at hupd
              have hdjB := dn_step (nx' := nx2 ++ [mrg a j]) hdj (fun _ h => List.mem_append.2 (.inl h)) (fun _ => by simp)
              have hnxB : ∀ q ∈ nx2 ++ [mrg a j], lvl n S (k + 1) q = true := fun q hq => (List.mem_append.1 hq).elim (hnx2 q) (fun h => by rw [List.mem_singleton] at h; rw [h]; exact hml)
              have hdnB : (∀ u ∈ lv.take i, ∀ v, v < n → imp n S (prt u v) = true → mrg u v ∈ nx2 ++ [mrg a j]) := fun a1 h1 j1 h2 h3 => List.mem_append.2 (.inl (hdn2 a1 h1 j1 h2 h3))
              have hlB : (nx2 ++ [mrg a j]).length ≤ i * 8 + (j + 1) ∧ c3 + 1 ≤ c + (nx2 ++ [mrg a j]).length := by simp; omega
              refine j_seq ?_
              refine j_region ?_
              refine jg_adr _ rfl _ rfl rfl (op_move (.b1 rfl)) ?_
              refine jg_adr _ rfl _ rfl rfl (op_oload ty29 (.base rfl) rfl rfl (Lens.id _)) ?_
              refine jg_os _ rfl (op_mapUpdateK (K := mK42) (E := mE) (true) Try.underlying42 (.base rfl) rfl (pat_val _) (.tv (.base rfl)) (.base rfl) (okP (by omega) (by omega)) trivial (by unfold maxLen; omega)) ?_
              refine jg_nil ?_
              refine jn_keep [0, 1, 6, 8, 11, 26, 27, 28, 32, 33] [8, 11, 100, 181] (.cons rfl (.cons rfl (.cons rfl (.cons rfl (.cons rfl (.cons rfl (.cons rfl (.cons rfl (.cons rfl (.cons rfl .nil)))))))))) (.cons rfl (.cons rfl (.cons rfl (.cons rfl .nil)))) ?_
              refine jn_seq ?_
              refine j_region ?_
              refine jg_adr _ rfl _ rfl rfl (op_move (.base rfl)) ?_
              refine jg_adr _ rfl _ rfl rfl (op_oload ty29 (.base rfl) rfl rfl (Lens.id _)) ?_
              refine jg_adr _ rfl _ rfl rfl (op_bslice (rt := rPattern) Try.underlying25 ty29 z29 rfl (.cons (.tv (.base rfl)) .nil) rfl rfl) ?_
              refine jg_os _ rfl (op_append [0, 1, 8, 26, 27, 28, 32, 33] Try.underlying25 ty29 z29 rfl by29 (.base rfl) rfl (by (try simp); try omega) (.tv (.base rfl)) (by unfold maxLen; (try simp); try omega) (by (try simp); try omega) rfl (.cons rfl (.cons rfl (.cons rfl (.cons rfl (.cons rfl (.cons rfl (.cons rfl (.cons rfl .nil)))))))) rfl) ?_
              refine jg_adr _ rfl _ rfl rfl (op_assign (.base rfl)) ?_
              refine jg_nil ?_
              refine jn_keep [0, 1, 6, 8, 26, 27, 28, 32, 33] [8, 100, 181] (.cons rfl (.cons rfl (.cons rfl (.cons rfl (.cons rfl (.cons rfl (.cons rfl (.cons rfl (.cons rfl .nil))))))))) (.cons rfl (.cons rfl (.cons rfl .nil))) ?_
              refine jn_blk (jn_seq ?_)
              refine j_region ?_
              refine jg_adr _ rfl _ rfl rfl (op_add (.base rfl) (.base rfl) (w64 (by omega))) ?_
              refine jg_adr _ rfl _ rfl rfl (op_move (.base rfl)) ?_
              refine jg_nil ?_
              refine jn_keep [0, 1, 6, 8, 26, 27, 28, 32, 33] [8, 100, 181] (.cons rfl (.cons rfl (.cons rfl (.cons rfl (.cons rfl (.cons rfl (.cons rfl (.cons rfl (.cons rfl .nil))))))))) (.cons rfl (.cons rfl (.cons rfl .nil))) ?_
              first
              | exact jn_loop (fun a0 w hi => ⟨(j + 1, nx2, c3, o3), (show n - (j + 1) < n - j by omega), ⟨by omega, hnx2, hdn2, hdjA, by omega, by omega⟩, Sub.inv ⟨(by repeat (first | exact SubS_nil | refine SubS_cons rfl (by first | rfl | (simp; done) | assumption) ?_)), (by repeat (first | exact SubH_nil | refine SubH_cons rfl (by first | rfl | (simp; done) | assumption) ?_))⟩ hi⟩)
              | exact jn_loop (fun a0 w hi => ⟨(j + 1, nx2 ++ [mrg a j], c3 + 1, none), (show n - (j + 1) < n - j by omega), ⟨by omega, hnxB, hdnB, hdjB, hlB.1, hlB.2⟩, Sub.inv ⟨(by repeat (first | exact SubS_nil | refine SubS_cons rfl (by first | rfl | (simp; done) | assumption | exact ownP (by simp)) ?_)), (by repeat (first | exact SubH_nil | refine SubH_cons rfl (by first | rfl | (simp; done) | assumption | (refine (congrArg (HB.mk (rMapK mK42 mE)) ?_); rw [hupd]) | (refine congrArg (HB.mk rPattern) ?_; rw [pat_row, List.drop_zero, List.take_of_length_le (by simp)])) ?_))⟩ hi⟩)
            · rw [fS_get] at h16
              simp only [Bool.true_and, Bool.not_eq_false'] at h16
              have hin := mrg_cur hml h16
              have hdjA := dn_step hdj (fun _ h => h) (fun _ => hin)
              refine j_skip (jn_blk (jn_seq ?_))
              refine j_region ?_
              refine jg_adr _ rfl _ rfl rfl (op_add (.base rfl) (.base rfl) (w64 (by omega))) ?_
              refine jg_adr _ rfl _ rfl rfl (op_move (.base rfl)) ?_
              refine jg_nil ?_
              refine jn_keep [0, 1, 6, 8, 26, 27, 28, 32, 33] [8, 100, 181] (.cons rfl (.cons rfl (.cons rfl (.cons rfl (.cons rfl (.cons rfl (.cons rfl (.cons rfl (.cons rfl .nil))))))))) (.cons rfl (.cons rfl (.cons rfl .nil))) ?_
              first
              | exact jn_loop (fun a0 w hi => ⟨(j + 1, nx2, c3, o3), (show n - (j + 1) < n - j by omega), ⟨by omega, hnx2, hdn2, hdjA, by omega, by omega⟩, Sub.inv ⟨(by repeat (first | exact SubS_nil | refine SubS_cons rfl (by first | rfl | (simp; done) | assumption) ?_)), (by repeat (first | exact SubH_nil | refine SubH_cons rfl (by first | rfl | (simp; done) | assumption) ?_))⟩ hi⟩)
              | exact jn_loop (fun a0 w hi => ⟨(j + 1, nx2 ++ [mrg a j], c3 + 1, none), (show n - (j + 1) < n - j by omega), ⟨by omega, hnxB, hdnB, hdjB, hlB.1, hlB.2⟩, Sub.inv ⟨(by repeat (first | exact SubS_nil | refine SubS_cons rfl (by first | rfl | (simp; done) | assumption | exact ownP (by simp)) ?_)), (by repeat (first | exact SubH_nil | refine SubH_cons rfl (by first | rfl | (simp; done) | assumption | (refine (congrArg (HB.mk (rMapK mK42 mE)) ?_); rw [hupd]) | (refine congrArg (HB.mk rPattern) ?_; rw [pat_row, List.drop_zero, List.take_of_length_le (by simp)])) ?_))⟩ hi⟩)
        · have h11 : ¬ j < n := by simpa using h11
          obtain rfl : j = n := by omega
          refine j_exit (je_seq (je_loop (je_blk (jn_blk (jn_seq ?_)))))
          refine j_region ?_
          refine jg_adr _ rfl _ rfl rfl (op_add (.base rfl) (.base rfl) (w64 (by omega))) ?_
          refine jg_adr _ rfl _ rfl rfl (op_move (.base rfl)) ?_
          refine jg_nil ?_
          refine jn_keep [0, 1, 6, 26, 27, 28] [100, 181] (.cons rfl (.cons rfl (.cons rfl (.cons rfl (.cons rfl (.cons rfl .nil)))))) (.cons rfl (.cons rfl .nil)) ?_
          exact jn_loop (fun a w hi => ⟨(i + 1, nx2, c3, o3), (show lv.length - (i + 1) < lv.length - i by omega), ⟨by omega, hnx2, dn_row h8 ha hdn2 hdj, by omega, by omega⟩, Sub.inv ⟨(by repeat (first | exact SubS_nil | refine SubS_cons rfl (by first | rfl | (simp; done) | assumption) ?_)), (by repeat (first | exact SubH_nil | refine SubH_cons rfl (by first | rfl | (simp; done) | assumption) ?_))⟩ hi⟩)
      · have h8 : ¬ i < lv.length := by simpa using h8
        obtain rfl : i = lv.length := by omega
        rw [List.take_length] at hdn
        have hlv2 : ∀ q, q ∈ nx ↔ lvl n S (k + 1) q = true := fun q => ⟨hnx q, fun hq => by
          obtain ⟨a, j, hj, q1, q2, q3⟩ := lvl_down hn hq
          rw [← q3]; exact hdn a ((hlv a).2 q1) j hj q2⟩
        have hcu : ∀ q, (upTo n S k q || nx.contains q) = upTo n S (k + 1) q := fun q => by
          rw [upTo_succ]; congr 1
          rw [Bool.eq_iff_iff, List.contains_iff_mem]; exact hlv2 q
        refine j_exit (je_seq (je_loop (je_blk (jn_seq ?_))))
        refine j_seal (rt := rPattern) 181 6 (dropH 181 _) rfl rfl (by simp) (dropH_sub 181 _) (dropH_no 181 _) ?_
        refine j_region ?_
        refine jg_adr _ rfl _ rfl rfl (op_move (.base rfl)) ?_
        refine jg_adr _ rfl _ rfl rfl (op_assign (.base rfl)) ?_
        refine jg_nil ?_
        refine jn_keep [0, 1, 4] [100] (.cons rfl (.cons rfl (.cons rfl .nil))) (.cons rfl .nil) ?_
        refine jn_blk ?_
        exact jn_loop (fun a w hi => ⟨(k + 1, nx, c2, o2), (show n + 1 - (k + 1) < n + 1 - k by omega), ⟨by omega, hlv2, by rw [Nat.pow_succ]; omega, by rw [Nat.pow_succ]; omega⟩, Sub.inv ⟨(by repeat (first | exact SubS_nil | refine SubS_cons rfl (by first | rfl | (simp; done) | assumption | (refine congrArg (SV.tv (rSlice rPattern)) ?_; rw [List.drop_zero, List.take_length])) ?_)), (by repeat (first | exact SubH_nil | refine SubH_cons rfl (by first | rfl | (simp; done) | assumption | exact mapHB_eq hcu) ?_))⟩ hi⟩)
    · have h5 : lv = [] := by simpa using h5
      subst h5
      refine j_exit (je_seq (je_loop (je_blk ?_)))
      exact jn_finM0 (s0 := 0) Try.results23 rfl rfl (by omega) (fS_congr (upTo_all hn (fun q => by cases hq : lvl n S k q with | false => rfl | true => exact absurd ((hlv q).2 hq) (by simp))))
  · refine jg_adr _ rfl _ rfl rfl (op_extR (.base rfl) rfl) ?_
    refine jg_nil ?_
    refine jn_keep [0, 1, 4, 14, 16] [14, 100, 180] (.cons rfl (.cons rfl (.cons rfl (.cons rfl (.cons rfl .nil))))) (.cons rfl (.cons rfl (.cons rfl .nil))) ?_
    refine jn_seq (j_seq ?_)
    refine j_cond_t rfl rfl (j_skip (jn_seq (j_block (j_seq ?_))))
    refine j_region ?_
    refine jg_adr _ rfl _ rfl rfl (op_entryK rfl rfl rfl hent) ?_
    refine jg_adr _ rfl _ rfl rfl (op_extR (.base rfl) rfl) ?_
    refine jg_os _ rfl (op_alloc _ z29 rfl rfl rfl) ?_
    refine jg_os _ rfl (op_ostore ty29 (.base rfl) rfl rfl (Lens.id _) (.lit (.base rfl) (pat_lit x))) ?_
    refine jg_nil ?_
    refine jn_keep [0, 1, 4, 5, 14] [5, 14, 100, 180] (.cons rfl (.cons rfl (.cons rfl (.cons rfl (.cons rfl .nil))))) (.cons rfl (.cons rfl (.cons rfl (.cons rfl .nil)))) ?_
    refine jn_seq ?_
    refine j_region ?_
    refine jg_adr _ rfl _ rfl rfl (op_move (.base rfl)) ?_
    refine jg_adr _ rfl _ rfl rfl (op_oload ty29 (.base rfl) rfl rfl (Lens.id _)) ?_
    refine jg_adr _ rfl _ rfl rfl (op_bslice (rt := rPattern) Try.underlying25 ty29 z29 rfl (.cons (.tv (.base rfl)) .nil) rfl rfl) ?_
    refine jg_os _ rfl (op_append [0, 1, 14] Try.underlying25 ty29 z29 rfl by29 (.base rfl) rfl (by (try simp); try omega) (.tv (.base rfl)) (by unfold maxLen; (try simp); try omega) (by (try simp); try omega) rfl (.cons rfl (.cons rfl (.cons rfl .nil))) rfl) ?_
    refine jg_adr _ rfl _ rfl rfl (op_assign (.base rfl)) ?_
    refine jg_nil ?_
    refine jn_keep [0, 1, 4, 14] [14, 100, 180] (.cons rfl (.cons rfl (.cons rfl (.cons rfl .nil)))) (.cons rfl (.cons rfl (.cons rfl .nil))) ?_
    refine jn_blk ?_
    exact jn_loop (fun a w hi => ⟨(iobj2, (fun y => left y && !decide (y = x)), cnt2, acc ++ [x]), hlt, ⟨hrel2, (by simp; omega), (fun y => mem_new hmem hxl (by rw [hxf]; rfl) y)⟩, Sub.inv ⟨(by repeat (first | exact SubS_nil | refine SubS_cons rfl (by first | rfl | (simp; done) | assumption | exact ownP (by simp)) ?_)), (by repeat (first | exact SubH_nil | refine SubH_cons rfl (by first | rfl | (simp; done) | assumption) ?_))⟩ hi⟩)

end Go.Proofs.Ytmdhmgngomlheaa
